import PyProof.Rows.All
import Wide.All
import OpenK.AllK
import HandS.TupAny
import HandS.TupMul
import HandS.RevTup
import HandS.Rev
import HandS.ExcInit
import HandS.ExcOwn
import HandS.TryOnly
import KE.KExcSuper
import KE.KSuper
import HandS.Exc
import Wide.FinOn
import HandS.ForMost
import HandS.WordsExc
import HandS.Walk
import HandS.Deep
import HandS.IsInst
import HandS.Lambda
import HandS.Style
import KE.KExcIs
import KE.GoesEnum
import HandS.Zip
import HandS.Strs
import HandS.ExcField
import HandS.ExcIs
import HandS.EndTab
import KE.SortData
import HandS.TupSets
import PySem.Challenge.RW_pairsonce_k67_whole_gap_rows_of_every_si
section
set_option Elab.async false
set_option linter.all false
set_option maxRecDepth 100000
/-! Tuples laid with what their objects are: no dict. -/
namespace Pf
open PySem PySem.Spec PyProof.Rows L2
def tob (its : List Value) : Obj := { cls := .type "tuple", data := .seq its.toArray }
theorem tob_dict (its : List Value) : (tob its).dict = none := rfl
section
variable {X : Cx} {pins : List (Addr × Obj)} {σ : L2.St} {H : Hp} {s : Shared}
theorem layT {xs : List V} {its : List Value} (I : Inv X pins σ H s) (r : Vals xs its) (hz : xs.length ≤ sizeLine) : Inv X pins σ (upd H s.heap.objs.size (.frz (tob its) (.tup xs))) { s with heap := s.heap.push (tob its) } :=
  I.laid (t' := s.toks) (o := .frz (tob its) (.tup xs)) (fun b u q => Heap.get?_push_of_some _ q) (Nat.le_refl _) ⟨Heap.get?_push_size _ rfl, hz, its, r, IsTup.new _ _⟩
def tTupF (t : TA) : TE := fun σ H Q => t σ H fun xs H1 => xs.length ≤ sizeLine ∧ ∀ p ob, H1 p = none → ob.dict = none → Q (.ref p) (upd H1 p (.frz ob (.tup xs)))
theorem pe_tupF {es : List Expr} {t : TA} {pos : Pos} {k : Nat} (ha : PA X es t) : PE X (.Tuple es k pos) (tTupF t) := ⟨fun pins s σ H Q I hq => by
  refine wpAny_Tuple_spliced (thn (ha.run pos pins s σ H _ I hq) fun us s1 ⟨xs, H1, I1, r, z, q⟩ => ⟨by rw [← r.length]; exact z, ?_⟩)
  exact ⟨.ref s1.heap.objs.size, _, layT I1 r z, rfl, q _ _ (I1.hok.fresh (Nat.le_refl _)) (tob_dict us)⟩⟩
/-- t + u -/
def rCatF (K : PySem.W.Frag) : R2 := fun x y H Q => ∃ a b xs ys, x = .ref a ∧ y = .ref b ∧ SqT K H a xs ∧ SqT K H b ys ∧ xs.length + ys.length ≤ sizeLine ∧
  (xs = [] → Q (.ref b) H) ∧ (xs ≠ [] → ys = [] → Q (.ref a) H) ∧ (xs ≠ [] → ys ≠ [] → ∀ p ob, H p = none → ob.dict = none → Q (.ref p) (upd H p (.frz ob (.tup (xs ++ ys)))))
theorem op_catF : OpR X (binaryOp .Add) (rCatF X.K) := by
  intro pins s σ H x y v u Q I rx ry hh
  obtain ⟨a, b, xs, ys, rfl, rfl, ha, hb, hz, q0, q1, q2⟩ := hh
  cases rx
  cases ry
  obtain ⟨us, r1, p1, _⟩ := I.tuple ha
  obtain ⟨ws, r2, p2, _⟩ := I.tuple hb
  by_cases hx : xs = []
  · subst hx
    cases r1
    exact cat_tup0 p1 p2 ⟨.ref b, H, I, rfl, q0 rfl⟩
  · exact HT.cat_tup p1 p2 (fun z => hx (r1.nil_iff.mp z)) (fun z => ⟨.ref a, H, I, rfl, q1 hx (r2.nil_iff.mp z)⟩)
      (fun z => ⟨.ref s.heap.objs.size, _, layT I (r1.append r2) (by rw [List.length_append]; exact hz), rfl, q2 hx (fun w => z (r2.nil_iff.mpr w)) _ _ (I.hok.fresh (Nat.le_refl _)) (tob_dict _)⟩) (by rw [← r1.length, ← r2.length]; exact hz)
/-- t[lo:hi] -/
def rSlF (K : PySem.W.Frag) : V → Option Int → Option Int → Hp → VK → Prop := fun x lo hi H Q => ∃ a xs, x = .ref a ∧ SqT K H a xs ∧
  (HT.sIx xs.length 0 lo = 0 ∧ HT.sIx xs.length xs.length hi = xs.length → Q (.ref a) H) ∧ (¬ (HT.sIx xs.length 0 lo = 0 ∧ HT.sIx xs.length xs.length hi = xs.length) → ∀ p ob, H p = none → ob.dict = none → Q (.ref p) (upd H p (.frz ob (.tup (cutV xs lo hi)))))
theorem sl_tupF : SlR X (rSlF X.K) := by
  intro pins s σ H x v vl vu lo hi sl Q I rx hs pl pu hh
  obtain ⟨a, xs, rfl, hx, q1, q2⟩ := hh
  cases rx
  obtain ⟨us, r, ht, hz⟩ := I.tuple hx
  have hn : us.toArray.size = xs.length := by rw [List.size_toArray]; exact r.length.symm
  refine ⟨"tuple", _, PyProof.Rows.slot_tuple_getitem.lookup, ht.typeIs, ?_⟩
  by_cases hw : HT.sIx xs.length 0 lo = 0 ∧ HT.sIx xs.length xs.length hi = xs.length
  · exact getItem_tuple_whole ht hs pl pu (by rw [hn]; exact hw) ⟨.ref a, H, I, rfl, q1 hw⟩
  · refine HT.getItem_tuple_cut ht hs pl pu (by rw [hn]; exact hw) ?_ (by rw [hn]; exact hz)
    rw [hn]
    exact ⟨.ref s.heap.objs.size, _, layT I ((r.drop (HT.sIx xs.length 0 lo)).take (HT.sIx xs.length xs.length hi - HT.sIx xs.length 0 lo)) (Nat.le_trans (cutV_length xs lo hi) hz), rfl, q2 hw _ _ (I.hok.fresh (Nat.le_refl _)) (tob_dict _)⟩
/-- tuple(a list or a tuple) -/
theorem call_tupleF : CallR X (.type "tuple") (fun xs H Q => ∃ p ys, xs = [.ref p] ∧ ((SqL X.K H p ys ∧ ∀ l ob, H l = none → ob.dict = none → Q (.ref l) (upd H l (.frz ob (.tup ys)))) ∨ (SqT X.K H p ys ∧ Q (.ref p) H))) := by
  intro pins s σ H xs us Q I r hh
  obtain ⟨p, ys, rfl, hh⟩ := hh
  obtain ⟨u, rfl, rx⟩ := vals1 r
  cases rx
  rcases hh with ⟨hq, q⟩ | ⟨hq, q⟩
  · obtain ⟨its, rv, pl, hz⟩ := I.list hq
    have hn := rv.length
    refine call_tuple_list pl.isList (fun h1 kp => ?_) (by simp only [List.size_toArray] <;> omega)
    have I1 : Inv X pins σ H { s with heap := h1 } := I.kept (t' := s.toks) kp
    exact ⟨.ref h1.objs.size, _, layT I1 rv hz, rfl, q _ _ (I1.hok.fresh (Nat.le_refl _)) (tob_dict _)⟩
  · obtain ⟨its, rv, pl, hz⟩ := I.tuple hq
    exact call_tuple_same pl ⟨.ref p, H, I, rfl, q⟩
/-- a tuple times a number -/
def rRepF (K : PySem.W.Frag) : R2 := fun x y H Q => ∃ l k xs, x = .ref l ∧ y = .int k ∧ SqT K H l xs ∧ xs ≠ [] ∧ 2 ≤ k ∧ k ≤ 1000 ∧ xs.length ≤ 1000 ∧ ∀ p ob, H p = none → ob.dict = none → Q (.ref p) (upd H p (.frz ob (.tup (List.replicate k.toNat xs).flatten)))
theorem op_repF : OpR X (binaryOp .Mult) (rRepF X.K) := by
  intro pins s σ H x y v u Q I rx ry hh
  obtain ⟨l, k, xs, rfl, rfl, hT, hne, k1, k2, hz, q⟩ := hh
  cases rx
  obtain ⟨t, rfl⟩ := ry
  obtain ⟨us, r, ⟨⟨cls, dd, data, sl⟩, ho, hc, n, hd⟩, hs⟩ := I.tuple hT
  simp only at hc hd
  subst hc hd
  have hn : us.length = xs.length := r.length.symm
  have ht : us.toArray.isEmpty = false := by
    cases us with
    | nil => exact absurd (List.eq_nil_of_length_eq_zero hn.symm) hne
    | cons a b => rfl
  have hsz : us.toArray.size = xs.length := by rw [List.size_toArray, hn]
  have small : ((us.toArray.size : Nat) : Int) * k ≤ 1000000 := by
    rw [hsz]
    have := Int.mul_le_mul_of_nonneg_right (a := ((xs.length : Nat) : Int)) (b := 1000) (c := k) (by omega) (by omega)
    omega
  have fl : k.toNat * xs.length ≤ sizeLine := by
    rw [sizeLine_eq]
    have := Nat.mul_le_mul (show k.toNat ≤ 1000 by omega) hz
    omega
  have c0 : (decide (k < -(2 ^ 63)) || decide (k ≥ 2 ^ 63)) = false := by rw [decide_eq_false (by omega), decide_eq_false (by omega)] <;> rfl
  have c1 : (us.toArray.isEmpty || k == 1) = false := by rw [ht, Bool.false_or]; exact beq_eq_false_iff_ne.mpr (by omega)
  have c2 : (decide (k ≤ 0) || us.toArray.isEmpty) = false := by rw [ht, Bool.or_false]; exact decide_eq_false (by omega)
  have c4 : Builtin.Tuple.tupleTooMany (((us.toArray.size : Nat) : Int) * k) = false := by
    unfold Builtin.Tuple.tupleTooMany
    rw [sizeLine_eq]
    exact decide_eq_false (by omega)
  refine wpAny_binaryOp_repeat_ref (T := "tuple") (U := "int") (by decide) ⟨_, ho, rfl⟩ (fun s1 => typeIs_int s1 k t) noFill_tuple_mul F.fills_int_mul F.slot_int_rmul repeat_tuple F.slot_int_index.lookup
    (call_meets F.slot_int_rmul (typeIs_int s k t) F.entry_int_rmul (F.args_int_rmul_2 _ _) (int_rmul_tuple k t l us.toArray n dd sl)
      ⟨ho, rfl, ⟨_, ho, rfl⟩, call_meets F.slot_tuple_mul ⟨_, ho, rfl⟩ F.entry_tuple_mul (F.args_tuple_mul_2 _ _) (tuple_mulW l us.toArray n dd sl k t c0 c1 c2 (by omega) c4 (by rw [size_rep, List.size_toArray, PyProof.Rows.lm_len_rep_flat, hn]; exact fl)) ⟨ho, ?_⟩⟩)
  rw [size_rep]
  exact ⟨.ref s.heap.objs.size, _, layT I (r.rep k.toNat) (by rw [PyProof.Rows.lm_len_rep_flat]; exact fl), rfl, q _ _ (I.hok.fresh (Nat.le_refl _)) (tob_dict _)⟩
end
end Pf
end

section
set_option Elab.async false
set_option linter.all false
set_option maxRecDepth 100000
namespace Pf
open PySem PySem.Spec PyProof.Rows L2 RT
theorem nolen_rt : typeLookup (.type "reversed") "__len__" = pure none := by rw [typeLookup_type, builtinLookup_eq_fast]; kernel_rfl
theorem hint_rt : typeLookup (.type "reversed") "__length_hint__" = pure (some (.builtin "reversed.__length_hint__")) := by rw [typeLookup_type, builtinLookup_eq_fast]; kernel_rfl
theorem slot_rt_hint : Slot "reversed" "__length_hint__" "reversed.__length_hint__" :=
  .of (owner := "reversed") (n := "__length_hint__") (by rw [typeLookup_type, builtinLookup_eq_fast]; kernel_rfl) (by decide +kernel) (by decide +kernel) (by decide +kernel)
    (by first | exact .inl (by decide +kernel) | exact .inr (by decide +kernel)) (by rw [isSubtype_type]; kernel_rfl)
theorem entry_rt_hint : entryFor table "reversed.__length_hint__" = some Builtin.«reversed.__length_hint__» := entryFor_of_tree (by kernel_rfl)
theorem args_rt_hint (a : Value) : argsOk "reversed.__length_hint__" ⟨[a], []⟩ := by
  unfold argsOk; rw [signature?_of (id := "reversed.__length_hint__") (n := ['_', '_', 't', 'n', 'i', 'h', '_', 'h', 't', 'g', 'n', 'e', 'l', '_', '_']) (o := ['d', 'e', 's', 'r', 'e', 'v', 'e', 'r']) (by kernel_rfl) owner_rt]; kernel_rfl
section
variable {prog : Program} {w : World} {A : Around} {E : Value → Shared → Prop} {s : Shared}
theorem walks_rt (hh : A.handled = none) (it t : Addr) (ne : t ≠ it) (items : Array Value) (hn : items.size ≤ sizeLine) :
    Walks prog w A it [it, t] [it] items.size (fun i v => items[items.size - 1 - i]? = some v) (fun i h => i ≤ items.size ∧ IsRt h it t ((items.size : Int) - 1 - (i : Int)) ∧ IsTup h t items) where
  sub := fun b hb => by simp at hb; simp [hb]
  frame := fun _ _ _ x k => ⟨x.1, x.2.1.at fun o e => k it (by simp) o e, by
    obtain ⟨o, e, r⟩ := x.2.2
    exact ⟨o, k t (by simp) o e, r⟩⟩
  item := fun i s Q E hi x hQ => by
    obtain ⟨x0, x1, x2⟩ := x
    have e : (items.size : Int) - 1 - (i : Int) = ((items.size - 1 - i : Nat) : Int) := by omega
    rw [e] at x1
    have hx : items[items.size - 1 - i]? = some (items[items.size - 1 - i]'(by omega)) := Array.getElem?_eq_getElem (by omega)
    refine next_rt_item x1 x2 hx hn fun h1 y sb => ?_
    have e2 : ((items.size - 1 - i : Nat) : Int) - 1 = (items.size : Int) - 1 - ((i + 1 : Nat) : Int) := by omega
    rw [e2] at y
    refine hQ _ h1 _ hx ⟨hi, y, ?_⟩ fun b o hb z => sb.extBut b o (fun q => hb (by simp [q])) z
    obtain ⟨o, z, r⟩ := x2
    exact ⟨o, (sb.2 t ne).trans z, r⟩
  done := fun s Q E x hQ => by
    obtain ⟨x0, x1, x2⟩ := x
    have e : (items.size : Int) - 1 - (items.size : Int) = -1 := by omega
    rw [e] at x1
    exact next_rt_end hh x1 fun h1 eb => hQ h1 s.toks fun b o hb z => eb b o (fun q => hb (by simp [q])) z
  self := fun _ _ _ _ x hQ => iter_rt x.2.1 hQ
set_option maxHeartbeats 1000000 in
theorem meets_hint (it t : Addr) (items : Array Value) (n : Nat) (dd dd2 : Option Addr) (sl sl2 : Array (Option Value)) (k : Nat) (hk : items.size = k) :
    Meets (Builtin.«reversed.__length_hint__» ⟨[.ref it], []⟩) (fun _ R s => s.heap.get? it = some { cls := .type "reversed", dict := dd2, data := .fields #[.ref t, rawInt ((k : Int) - 1)], slots := sl2 } ∧ s.heap.get? t = some { cls := .type "tuple", dict := dd, data := .seq items n, slots := sl } ∧
      items.size ≤ sizeLine ∧ ∀ tk u, s.toks ≤ tk → R (.ok (.ret (.int k u))) { s with toks := tk }) :=
  .of_wp fun prog w A R s h => by
    obtain ⟨hp, g, d, tk, os⟩ := s
    obtain ⟨h1, h2, hz, hR⟩ := h
    have hlen : ∀ {A1 : Around} {E1 : Value → Shared → Prop} {Q1 : Value → Shared → Prop}, Q1 (.int items.size (tk + 1)) ⟨hp, g, d, tk + 1 + 1, os⟩ → wpAny (model prog w) A1 (call (.builtin "len") [#[Value.ref t, rawInt ((k : Int) - 1)][0]]) Q1 E1 ⟨hp, g, d, tk, os⟩ :=
      fun q => PyProof.Rows.len_tuple (t := t) (items := items) ⟨_, h2, rfl, n, rfl⟩ (by have := line63; omega) q
    wp_walk using AutoSeq1.wpAny_loadPart' h1, hlen
    rw [show (k : Int) - 1 + 1 = k by omega]
    exact ⟨_, rfl, hR _ _ (by show tk ≤ tk + 1 + 1 + 1; omega)⟩
theorem collect_rt {it t : Addr} {items : Array Value} {Q : List Value → Shared → Prop} (hh : A.handled = none) (hit : IsRt s.heap it t ((items.size : Int) - 1)) (ht : IsTup s.heap t items) (ne : t ≠ it) (hn : items.size ≤ sizeLine)
    (hQ : ∀ (h1 : Heap) (tk : Nat) (acc : Array Value), (∀ b o, b ≠ it → s.heap.get? b = some o → h1.get? b = some o) → ItemsOf (fun i v => items[items.size - 1 - i]? = some v) acc items.size → Q acc.toList { s with heap := h1, toks := tk }) :
    wpAny (model prog w) A (collect (.ref it)) Q E s := by
  have W := (walks_rt (prog := prog) (w := w) (A := A.in1) hh it t ne items hn).toS
  obtain ⟨oi, hoi, hci, hdi⟩ := id hit
  obtain ⟨ol, hol, hcl, nl, hdl⟩ := id ht
  have si : s.heap.objs.size ≠ it := Nat.ne_of_gt (Heap.lt_size hoi)
  have sl : s.heap.objs.size ≠ t := Nat.ne_of_gt (Heap.lt_size hol)
  have sf : s.heap.objs.size ∉ [it, t] := by simp only [List.mem_cons, List.not_mem_nil, or_false, not_or]; exact ⟨si, sl⟩
  unfold collect
  refine wpAny_bind (wpAny_runValue (codeAny_builtin F.entry_proto_collect ?_))
  rw [Around.under_plainId F.plain_proto_collect _]
  show wpAny _ A.in1 (newList [] >>= fun l1 => again (.builtin "list.__iadd__" ⟨[l1, .ref it], []⟩)) _ _ s
  refine wpAny_bind (wpAny_newObj_type ?_)
  refine wpAny_pure ⟨plainId_quiet F.plain_list_iadd _, codeAny_builtin F.entry_list_iadd ?_⟩
  rw [Around.under_plainId F.plain_list_iadd _]
  generalize hs1 : ({ s with heap := s.heap.push { cls := .type "list", data := .seq ([] : List Value).toArray } } : Shared) = s1
  have hp1 : s1.heap = s.heap.push { cls := .type "list", data := .seq ([] : List Value).toArray } := by rw [← hs1]
  have hS : s1.heap.get? s.heap.objs.size = some { cls := .type "list", data := .seq ([] : List Value).toArray } := by rw [hp1]; exact Heap.get?_push_size _ rfl
  have kp : ∀ b o, s.heap.get? b = some o → s1.heap.get? b = some o := fun b o e => by rw [hp1]; exact Heap.get?_push_of_some _ e
  have hit1 : IsRt s1.heap it t ((items.size : Int) - 1) := hit.at fun o e => kp _ _ e
  have ht1 : IsTup s1.heap t items := ⟨ol, kp _ _ hol, hcl, nl, hdl⟩
  have hT : s1.TypeIs (.ref it) "reversed" := hit1.typeIs
  have n1 : Builtin.List.listSameRef (.ref s.heap.objs.size) (.ref it) = false := by simp [Builtin.List.listSameRef, si]
  show wpAny _ A.in1 (Builtin.List.listExtendWith (.ref s.heap.objs.size) (.ref it) (.ref s.heap.objs.size)) _ _ s1
  unfold Builtin.List.listExtendWith
  refine wpAny_bind (wpAny_typeOf hT ?_)
  rw [if_neg (by rw [n1]; decide)]
  refine wpAny_bind (iter_rt hit1 ?_)
  refine wpAny_bind (wpAny_holding ?_)
  unfold Builtin.List.listLengthHint
  refine wpAny_bind (wpAny_specialOf hT nolen_rt ?_)
  show wpAny _ A.in1 (specialOf (Value.ref it) (Str.ofString "__length_hint__") >>= _) _ _ _
  refine wpAny_bind (wpAny_specialOf hT hint_rt ?_)
  generalize hid : ("reversed.__length_hint__" : String) = id0
  wp_delta
  rw [show splitId id0 = some ("reversed", "__length_hint__") from by subst hid; decide +kernel]
  subst hid
  refine wpAny_bind (wpAny_isInstance (b := true) hT (by rw [isSubtype_type]; kernel_rfl) ?_)
  rw [if_neg (by decide)]
  dsimp only
  refine wpAny_ite_false (by decide +kernel) ?_
  refine wpAny_bind (wpAny_rule ?_)
  refine wpAny_bind (wpAny_of_eq (slot_rt_hint.bind _) ?_)
  dsimp only
  obtain ⟨⟨c1, dd1, dt1, sl1⟩, hoi1, hci1, hdi1⟩ := id hit1
  obtain ⟨⟨c2, dd2, dt2, sl2⟩, hol1, hcl1, nl2, hdl1⟩ := id ht1
  simp only at hci1 hdi1 hcl1 hdl1
  subst hci1 hdi1 hcl1 hdl1
  refine wpAny_bind (wpAny_attempt (call_meets slot_rt_hint hT entry_rt_hint (args_rt_hint _) (meets_hint it t items nl2 dd2 dd1 sl2 sl1 items.size rfl) ⟨hoi1, hol1, hn, fun tk u htk => ?_⟩))
  have l63 := line63
  have fit : Builtin.List.listFitsIndex (items.size : Int) = true := fitsIndex_both (by omega) (by omega)
  have long : Builtin.List.listTooLong ((items.size : Int)).toNat = false := notLongL (by rw [Int.toNat_natCast]; exact hn)
  have pos : ¬ (items.size : Int) < 0 := by omega
  generalize hzz : ((items.size : Nat) : Int) = z at fit long pos ⊢
  show wpAny (model prog w) A.in1 (asInt? (.int z u) >>= _) _ _ _
  refine wpAny_bind (m := asInt? (.int z u)) (wpAny_pure ?_)
  dsimp only
  refine wpAny_ite_false (by rw [fit]; rfl) ?_
  refine wpAny_ite_false (decide_eq_false pos) ?_
  refine wpAny_ite_false (by rw [long]; rfl) ?_
  refine wpAny_pure ?_
  have st : ∀ (h1 : Heap), (∀ b o, b ≠ s.heap.objs.size → s1.heap.get? b = some o → h1.get? b = some o) → (0 ≤ items.size ∧ IsRt h1 it t ((items.size : Int) - 1 - ((0 : Nat) : Int)) ∧ IsTup h1 t items) := fun h1 k => by
    have e0 : (items.size : Int) - 1 - ((0 : Nat) : Int) = (items.size : Int) - 1 := by omega
    rw [e0]
    exact ⟨Nat.zero_le _, hit1.at fun o e => k _ _ si.symm e, by
      obtain ⟨o, e, r⟩ := ht1
      exact ⟨o, k _ _ sl.symm e, r⟩⟩
  have endS : ∀ (s' : Shared) (h1 : Heap) (tk1 : Nat) (acc' : Array Value), (∀ b o, b ≠ s.heap.objs.size → s1.heap.get? b = some o → h1.get? b = some o) → Moved (s.heap.objs.size :: [it]) (fun a b => b = a) { s1 with heap := h1, toks := tk1 } s' →
      ItemsOf (fun i v => items[items.size - 1 - i]? = some v) acc' items.size → Q acc'.toList s' := fun s' h1 tk1 acc' k hm hacc => by
    rw [Moved.eq_with hm]
    have e1 : ({ ({ s1 with heap := h1, toks := tk1 } : Shared) with heap := s'.heap, toks := s'.toks } : Shared) = { s with heap := s'.heap, toks := s'.toks } := by rw [← hs1]
    rw [e1]
    refine hQ s'.heap s'.toks acc' (fun b o hb e => ?_) hacc
    have nb : b ≠ s.heap.objs.size := Nat.ne_of_lt (Heap.lt_size e)
    refine hm.heap b o (fun hmem => ?_) (k b o nb (kp b o e))
    rcases List.mem_cons.mp hmem with z | z
    · exact nb z
    · exact hb (List.mem_singleton.mp z)
  by_cases hz0 : (z != 0) = true
  · refine wpAny_ite_true (by rw [hz0]; rfl) ?_
    refine wpAny_bind (wpAny_rule ?_)
    refine wpAny_bind ?_
    show wpAny _ A.in1 (updateSeq s.heap.objs.size (·.push .none) >>= fun _ => updateSeq s.heap.objs.size (·.pop)) _ _ _
    refine wpAny_bind (wpAny_updateSeq hS rfl ?_)
    have hS2 := Heap.get?_update_self (Obj.mapSeq (·.push Value.none)) hS rfl
    refine wpAny_updateSeq hS2 rfl ?_
    have hS3 := Heap.get?_update_self (Obj.mapSeq (·.pop)) hS2 rfl
    have oth : ∀ b o, b ≠ s.heap.objs.size → s1.heap.get? b = some o → ((s1.heap.update s.heap.objs.size (Obj.mapSeq (·.push Value.none))).update s.heap.objs.size (Obj.mapSeq (·.pop))).get? b = some o :=
      fun b o hb e => (Heap.get?_update_other _ _ (Ne.symm hb)).trans ((Heap.get?_update_other _ _ (Ne.symm hb)).trans e)
    refine wpAny_pure ⟨plainId_quiet F.plain_extend_loop _, codeAny_extend_loopS W hn _ sf _ items.size 0 _ _ _ rfl (Nat.zero_le _) (st _ oth) hS3 (ItemsOf.nil _) fun s' acc' c' hm hS' hacc => ?_⟩
    show wpAny _ A (load s.heap.objs.size >>= _) _ _ s'
    refine wpAny_bind (wpAny_load hS' ?_)
    exact wpAny_pure (endS s' _ tk acc' oth hm hacc)
  · refine wpAny_ite_false (by rw [Bool.not_eq_true] at hz0; rw [hz0]; decide +kernel) ?_
    refine wpAny_pure ⟨plainId_quiet F.plain_extend_loop _, codeAny_extend_loopS W hn _ sf _ items.size 0 _ _ _ rfl (Nat.zero_le _) (st _ fun b o _ e => e) hS (ItemsOf.nil _) fun s' acc' c' hm hS' hacc => ?_⟩
    show wpAny _ A (load s.heap.objs.size >>= _) _ _ s'
    refine wpAny_bind (wpAny_load hS' ?_)
    exact wpAny_pure (endS s' _ tk acc' (fun b o _ e => e) hm hacc)
theorem code_tup_rt {it t : Addr} {items : Array Value} {Q1 : Value → Shared → Prop} (hh : A.handled = none) (hit : IsRt s.heap it t ((items.size : Int) - 1)) (ht : IsTup s.heap t items) (ne : t ≠ it) (hn : items.size ≤ sizeLine)
    (hQ : ∀ (h1 : Heap) (tk : Nat) (acc : Array Value), (∀ b o, b ≠ it → s.heap.get? b = some o → h1.get? b = some o) → ItemsOf (fun i v => items[items.size - 1 - i]? = some v) acc items.size →
      Q1 (.ref h1.objs.size) { s with heap := h1.push { cls := .type "tuple", data := .seq acc }, toks := tk }) :
    codeAny (model prog w) A (.call (.builtin "tuple.__new__") ⟨[.type "tuple", .ref it], []⟩) (wants Q1 E) s := by
  refine codeAny_of_tree ?_
  show wpAny _ A.in1 (do checkBuiltinCall "tuple.__new__" ⟨[.type "tuple", .ref it], []⟩; again (.builtin "tuple.__new__" ⟨[.type "tuple", .ref it], []⟩)) _ _ s
  refine wpAny_bind (wpAny_of_eq (F.newCall_tuple_1 _) (wpAny_pure ⟨plainId_quiet F.plain_tuple_new _, codeAny_builtin F.entry_tuple_new ?_⟩))
  rw [Around.under_plainId F.plain_tuple_new _]
  have k1 := sub_tuple_self
  have k2 := init_tuple_lookup
  have k3 := madeHere_tuple
  have tI : s.TypeIs (.ref it) "reversed" := hit.typeIs
  have hc : A.in1.handled = none := hh
  wp_walk using wpAny_typeOf tI, collect_rt (A := A.in1) hc hit ht ne hn
  intro h1 tk acc hk hacc
  show wpAny _ _ (Builtin.Tuple.tupleExact acc.toList.toArray >>= fun v => ret v) _ _ _
  unfold Builtin.Tuple.tupleExact
  refine wpAny_bind (wpAny_newObj_type ?_ (by show acc.toList.toArray.size ≤ sizeLine; simp only [Array.toArray_toList]; rw [hacc.1]; exact hn))
  refine wpAny_pure ?_
  rw [show acc.toList.toArray = acc by simp]
  exact hQ h1 tk acc hk hacc
theorem call_tup_rt {it t : Addr} {items : Array Value} {Q : Value → Shared → Prop} (hh : A.handled = none) (hit : IsRt s.heap it t ((items.size : Int) - 1)) (ht : IsTup s.heap t items) (ne : t ≠ it) (hn : items.size ≤ sizeLine)
    (hQ : ∀ (h1 : Heap) (tk : Nat) (acc : Array Value), (∀ b o, b ≠ it → s.heap.get? b = some o → h1.get? b = some o) → ItemsOf (fun i v => items[items.size - 1 - i]? = some v) acc items.size →
      Q (.ref h1.objs.size) { s with heap := h1.push { cls := .type "tuple", data := .seq acc }, toks := tk }) :
    wpAny (model prog w) A (call (.type "tuple") [.ref it]) Q E s := by
  refine callType_codes (Q₁ := fun obj s1 => s1.TypeIs obj "tuple" ∧ Q obj s1) F.called_tuple (F.typeCall_tuple_1 _) F.entry_object_init
    (code_tup_rt (A := A.in1) hh hit ht ne hn fun h1 tk acc hk hacc => ⟨⟨_, Heap.get?_push_size _ rfl, rfl⟩, hQ h1 tk acc hk hacc⟩) fun obj s1 q => ?_
  exact ⟨q.1, F.args_object_init_2 obj _, object_init_meets F.called_tuple.init.lookup F.called_tuple.made (by decide) prog w A.in1 _ s1 ⟨q.1, rfl, q.2⟩⟩
end
end Pf
end

section
set_option Elab.async false
set_option linter.all false
set_option maxRecDepth 100000
/-! An own exception class over ValueError whose __init__ says super().__init__(a); self.f = a. -/
namespace Pf
open PySem PySem.Spec PySem.W PySem.Calls PyProof.Rows PySem.HandSPX
section
variable {prog : Program} {w : World} {A : Around} {E : Value → Shared → Prop} {h : Heap} {g : Array GenState} {d : Drawn} {t : Nat} {os : OsState}
variable {nm q : Str} {C N : Addr} {bs bm : List Value} {hdct : Bool} {sn : List Str} {sub : List Value} {ab : Bool} {col : Option Bool} {dd : Option Addr} {k0 k1 k2 k3 k5 : Option Value}
/-- the bound __init__ is called: the args are laid anew -/
theorem call_mw {u e t0 : Addr} {rest : List Value} {Q : Value → Shared → Prop}
    (hC : h.get? C = some (excClassObj nm q C N bs bm hdct sn sub ab col dd k0 k1 k2 k3 k5 "ValueError.__new__")) (he : h.get? e = some (HandSPX.excO C t0)) (hu : h.get? u = some (kxs_mw "ValueError.__init__" e)) (hrest : rest.length ≤ sizeLine)
    (hq : ∀ h1 t1, (∀ b o, b ≠ e → h.get? b = some o → h1.get? b = some o) → h1.get? e = some (HandSPX.excO C t1) → Q .none ⟨h1, g, d, t, os⟩) : wpAny (model prog w) A (call (.ref u) rest) Q E ⟨h, g, d, t, os⟩ := by
  refine wpAny_call (codeAny_of_tree ?_)
  show wpAny _ A.in1 (callAny (.ref u) ⟨rest, []⟩) _ _ _
  simp only [callAny]
  refine wpAny_bind (wpAny_load hu ?_)
  simp only [kxs_mw, show (Value.type "method-wrapper" == Value.type "method" || Value.type "method-wrapper" == Value.type "builtin_function_or_method" || Value.type "method-wrapper" == Value.type "method-wrapper") = true by decide, if_true]
  refine KFB.if_so (by decide) ?_
  refine wpAny_bind (check_bound_init F.excBase_ValueError.toExcCallFacts hC he rfl ?_)
  refine wpAny_bind (wpAny_pure (wpAny_pure ?_))
  refine ⟨plainId_quiet F.excBase_ValueError.init.plain _, codeAny_builtin F.excBase_ValueError.initEntry ?_⟩
  exact exc_init_tree (cls := .ref C) (t0 := t0) (dv := none) (c2 := .none) (c3 := .none) (b4 := .bool false) he hrest fun h1 k1 k2 _ => hq h1 _ k1 k2
end
theorem lkp {α : Type} (f g : Str) (y : α) (l : List (Str × α)) : ((f, y) :: l).lookup g = if g = f then some y else l.lookup g := by
  by_cases h : g = f
  · subst h; simp [List.lookup]
  · have e : (g == f) = false := by simpa using h
    rw [if_neg h]; simp [List.lookup, e]
/-- what the written part says of such a class -/
structure Exc1 (prog : Program) (K : Frag) (mg : Str → Option Value) (C fI : Addr) (c f p : Str) : Prop where
  T : L2.OexC K C
  cls : mg c = some (.ref C)
  ini : findIn K (.ref C) "__init__" = some (some (.ref fI))
  tyI : typeIn K (.ref fI) = some (.type "function")
  no : findIn K (.ref C) f = some none
  sup : mg "super" = none
  top : (prog.main.scope.names.lookup ("super" : Str)).isSome = false
  any : nsIn K cStatics "thirdparty.any" = some none
  bas : ks_superIn K C C "__init__" = some (some (.builtin "ValueError.__init__"))
  val : subIn K (.ref C) (.type "ValueError") = some true
  slf : mroIn K C (.ref C) = some true
  fn : ∃ (oc oc2 oc3 : Value) (od od2 od3 : Option Addr) (sl sl2 sl3 : Array (Option Value)) (qual : Str) (params : Arguments) (scope : Scope) (dV kV doc pm ct : Value) (an : Option Addr) (cda cc : Addr) (vs : Array Value) (file : Str) (tf : Tok) (p0 p1 p2 p3 p4 p5 p6 p7 p8 p9 : Pos),
    K.lookup fI = some ⟨oc, od, .func (ksFn "__init__" qual params [.Expr (.Call (.Attribute (.Call (.Name "super" p0) [] [] p1) "__init__" p2) [.Name p p3] [] p4) p5, .Assign [.Attribute (.Name "self" p6) f p7] (.Name p p8) p9] scope dV kV doc pm an (.ref cda) ct cc), sl⟩ ∧
    codeIn K (.ref cda) qual = true ∧ K.lookup cda = some ⟨oc2, od2, .fields vs, sl2⟩ ∧ vs[2]? = some (.str file tf) ∧ ((prog.main.file : Str) == file) = true ∧ K.lookup cc = some ⟨oc3, od3, .cell (some (.ref C)), sl3⟩ ∧
    params.posonlyargs = [] ∧ (∃ ar, params.args.head? = some ar ∧ ar.arg = "self") ∧ (∀ u v : Value, bindArgs (ksFn "__init__" qual params [.Expr (.Call (.Attribute (.Call (.Name "super" p0) [] [] p1) "__init__" p2) [.Name p p3] [] p4) p5, .Assign [.Attribute (.Name "self" p6) f p7] (.Name p p8) p9] scope dV kV doc pm an (.ref cda) ct cc) ⟨[u, v], []⟩ = pure [(("self" : Str), u), (p, v)]) ∧
    scope.names.lookup ("super" : Str) = some .globalImplicit ∧ scope.names.lookup ("__class__" : Str) = some .free ∧ scope.names.lookup ("self" : Str) = some .local ∧ scope.names.lookup p = some .local ∧ scope.kind = .function ∧ scope.isCoroutine = false ∧ scope.isGenerator = false ∧
    (∀ x ∈ scope.names, x.2 ≠ .cell) ∧ (p == ("__debug__" : Str)) = false ∧ ¬ ("self" : Str) = p ∧
    (∀ env : Env, ∃ pl : Sem Bool, eval (.Call (.Attribute (.Call (.Name "super" p0) [] [] p1) "__init__" p2) [.Name p p3] [] p4) env = (do
      let ov ← attributeBase (.Call (.Name "super" p0) [] [] p1) "__init__" env (eval (.Call (.Name "super" p0) [] [] p1) env)
      standAt p2.atName
      let (f, first) ← holding [ov] (getMethod ov "__init__" pl)
      callWith p4 f first (backTo p4 (starEach [.Name p p3] env)) []))
section
variable {prog : Program} {w : World} {K : Frag} {mg : Str → Option Value} {base : Heap} {C fI : Addr} {c f p : Str}
theorem init_super (T : Exc1 prog K mg C fI c f p) (M : L2.Mod K mg base) {A : Around} {R : Result → Shared → Prop} {s : Shared} {x t0 : Addr} {v : Value} (kp : ∀ b o, base.get? b = some o → s.heap.get? b = some o) (nb : base.get? x = none) (hroom : A.depth < recursionLimit) (hx : s.heap.get? x = some (HandSPX.excO C t0))
    (hR : ∀ (h1 : Heap) (tk : Nat) (t1 dx : Addr), (∀ b o, b ≠ x → s.heap.get? b = some o → h1.get? b = some o) → s.heap.objs.size ≤ dx → dx ≠ x → h1.get? x = some ({ cls := .ref C, dict := some dx, data := .fields #[.ref t1, .none, .none, .none, .bool false, .none] } : Obj) →
      h1.Ns1 dx (fun y => if y = f then some v else none) → R (.ok (.ret .none)) { s with heap := h1, toks := tk }) :
    codeAny (model prog w) A (.call (.ref fI) ⟨[.ref x, v], []⟩) R s := by
  obtain ⟨oc, oc2, oc3, od, od2, od3, sl, sl2, sl3, qual, params, scope, dV, kV, doc, pm, ct, an, cda, cc, vs, file, tf, p0, p1, p2, p3, p4, p5, p6, p7, p8, p9, lF, lC, lO, hv2, hfl, lc, hpo, ⟨ar, har, hself⟩, hbind, hsS, hsC, hsX, hsP, hk, hco, hgen, hcell, hpd, hnp, hev⟩ := T.fn
  obtain ⟨kd, nms, ig, ic, more⟩ := scope
  dsimp only at hsS hsC hsX hsP hk hco hgen hcell
  subst hk hco hgen
  obtain ⟨nm, q, N, bs, bm, sn, sub, ab, col, dd, k0, k1, k2, k3, k5, hC, hbm⟩ := T.T.cls
  have KX : K.In s.heap := M.kin.keeps kp
  have hx1 : s.heap.get? x = some (HandSPX.excO C t0) := hx
  refine ks_codeAny_call_defAt (binds := [(("self" : Str), Value.ref x), (p, v)]) hroom (KX _ _ lF) rfl (M.nolimit.keeps kp) (codeRec_of KX lC) rfl (.of_eq (hbind _ _)) hcell (fun y hy => ?_) (fun h0 hns k0' => ?_)
  · rcases List.mem_cons.mp hy with z | hy
    · rw [z]; exact hsX
    · rw [List.mem_singleton.mp hy]; exact hsP
  have K0 : K.In h0 := KX.keeps k0'
  have kb0 : ∀ b o, base.get? b = some o → h0.get? b = some o := fun b o e => k0' b o (kp b o e)
  have ms : ([(("self" : Str), Value.ref x), (p, v)] : List (Str × Value)).reverse.lookup ("self" : Str) = some (.ref x) := by
    show ([(p, v), (("self" : Str), Value.ref x)] : List (Str × Value)).lookup ("self" : Str) = some (.ref x)
    rw [lkp, if_neg hnp, lkp, if_pos rfl]
  have mp : ([(("self" : Str), Value.ref x), (p, v)] : List (Str × Value)).reverse.lookup p = some v := by
    show ([(p, v), (("self" : Str), Value.ref x)] : List (Str × Value)).lookup p = some v
    rw [lkp, if_pos rfl]
  obtain ⟨mb, hb, hmb⟩ := M.blt
  have hx0 := k0' _ _ hx
  obtain ⟨hp, g, d, tk, os⟩ := s
  dsimp only at hns k0' hx kp hR ⊢
  obtain ⟨pl, hpl⟩ := hev (callEnv (ksFn "__init__" qual params [.Expr (.Call (.Attribute (.Call (.Name "super" p0) [] [] p1) "__init__" p2) [.Name p p3] [] p4) p5, .Assign [.Attribute (.Name "self" p6) f p7] (.Name p p8) p9] ⟨.function, nms, false, false, more⟩ dV kV doc pm an (.ref cda) ct cc) hp.objs.size fI)
  refine ks_wpAt_execs_cons (ks_wpAt_Expr_any (ks_wpAt_MethodCall (pl := pl) ?_ hpl))
  refine ks_wpAt_super_base (ar := ar) hsS hsC rfl rfl (k0' _ _ (KX _ _ lF)) rfl (by show (params.posonlyargs ++ params.args).head? = some ar; rw [hpo]; exact har) rfl (K0 _ _ lO) rfl hv2 hfl T.top ?_
  refine ks_loadName_global rfl hsS (loadGlobal_builtin (M.glob.keeps kb0) T.sup (hb.keeps kb0) ((hmb _ (by decide +kernel)).trans (show bootBuiltins "super" = some (.type "super") by decide +kernel)) ⟨rfl, ?_⟩)
  refine wpAny_loadName_free rfl hsC (c := cc) rfl ⟨_, K0 _ _ lc, rfl⟩ ?_
  rw [hself]
  refine wpAny_loadName_local rfl hsX hns ms ?_
  refine ks_wpAny_isType_cls (K0 _ _ hC) rfl ⟨rfl, ?_⟩
  refine ks_wpAny_call_super (K0 _ _ hC) rfl hx0 rfl (fun c e => nomatch e) (looks_mroIn K0 T.slf) (fun h1 e1 k1' => ?_)
  have K1 : K.In h1 := K0.keeps k1'
  have hx1' := k1' _ _ hx0
  have I1 : PySem.W.InstAt h1 x (HandSPX.excO C t0) C none := ⟨hx1', rfl, rfl, trivial⟩
  have hcl : clsIn K C = some { name := nm, bases := bs, mro := .ref C :: bm, ns := N, qualname := q, hasDict := true, slotNames := sn, subclasses := sub, abstract := ab, collection := col, hasDel := false } := by unfold clsIn; rw [hC] <;> rfl
  have bas := T.bas
  unfold ks_superIn at bas
  rw [hcl] at bas
  refine kxs_getMethod kxs_ValueError e1 (looks_opaque K1 T.any) (l₀ := .ref C :: bm) (fun A Q E s k q => wpAny_bind ((looks_clsIn K1 hcl) A _ E s k (wpAny_pure q))) rfl K1 bas (I1.type.andThen (looks_subIn K1 T.val)) (ks_ne K1 I1 hcl) (by decide) ?_
  have k2' : ∀ b o, h1.get? b = some o → (h1.push (kxs_mw "ValueError.__init__" x)).get? b = some o := fun b o e => Heap.get?_push_of_some _ e
  have hu2 : (h1.push (kxs_mw "ValueError.__init__" x)).get? h1.objs.size = some (kxs_mw "ValueError.__init__" x) := Heap.get?_push_size _ rfl
  generalize h1.push (kxs_mw "ValueError.__init__" x) = h2 at k2' hu2 ⊢
  have ns2 := (hns.keeps k1').keeps k2'
  have hpl1 : ∀ env : Env, starEach [.Name p p3] env = (false, eval (.Name p p3) env) :: starEach [] env := fun _ => rfl
  show wpAny _ _ (callWith p4 (.ref h1.objs.size) [] (backTo p4 (starEach [.Name p p3] _)) []) _ _ _
  rw [hpl1]
  refine kxs_callWith (i := "ValueError.__init__") (x := x) rfl (evalArgs_plain (Calls.spliced_cons (wpAny_Name (wpAny_loadName_local rfl hsP ns2 mp ?_) hpd) ))
  refine Calls.spliced_nil ⟨hu2, ?_⟩
  have K2 : K.In h2 := K1.keeps k2'
  refine call_mw (K2 _ _ hC) (k2' _ _ hx1') hu2 (by show 1 ≤ sizeLine; rw [sizeLine_eq]; omega) fun h3 t1 k3' hx3 => ?_
  have xlt : x < hp.objs.size := Heap.lt_size hx
  have nxb : ∀ b o, base.get? b = some o → b ≠ x := fun b o e z => by rw [z, nb] at e; cases e
  have K3 : K.In h3 := M.kin.keeps fun b o e => k3' b o (nxb b o e) (k2' b o (k1' b o (kb0 b o e)))
  have ns3 := ns2.at fun o e => k3' _ o (Nat.ne_of_gt xlt) e
  refine ks_wpAt_execs_cons (ks_wpAt_Assign_Attr ?_)
  refine wpAt_of_wpAny (wpAny_Name (wpAny_loadName_local rfl hsP ns3 mp ?_) hpd)
  refine wpAny_Name (wpAny_loadName_local rfl hsX ns3 ms ?_) (by decide)
  refine set_plain K3 (ox := HandSPX.excO C t1) (od := none) ⟨hx3, rfl, rfl, trivial⟩ T.T.sa ?_
  refine exc_osa K3 hx3 hcl (show refsVE (.ref C :: bm) = true from hbm) rfl T.no (fun h5 tk5 dx k5' dn dne hx5 hn5 => ?_)
  refine wpAt_of_wpAny (wpAny_pure ?_)
  refine hR h5 tk5 t1 dx (fun b o hb e => k5' b o hb (k3' b o hb (k2' b o (k1' b o (k0' b o e))))) ?_ dne hx5 hn5
  have hz3 : hp.objs.size ≤ h3.objs.size := by
    obtain ⟨o, _, _, e, _⟩ := ns3
    exact Nat.le_of_lt (Heap.lt_size e)
  exact Nat.le_trans hz3 dn
end
end Pf
namespace Pf
open PySem PySem.Spec PyProof.Rows L2
def tMk1 (C : Addr) (f : Str) (ta : TA) : L2.St → Hp → XK → Prop := fun σ H Q => ta σ H fun vs H1 => ∃ v, vs = [v] ∧ ∀ d, H1 d = none → Q (.ref C) (some d) (upd H1 d (.xd [(f, v)]))
section
variable {X : Cx} {e : Expr} {ta : TA} {C fI : Addr} {c f p : Str} {pp pos : Pos} {k : Nat}
theorem pmk1 (T : Exc1 X.prog X.K X.mg C fI c f p) (hr : Room (k + 1) X.A) (hg : Gl X c) (ha : PA X [e] ta) (hdb : (c == ("__debug__" : Str)) = false := by decide) (hs : starEach [e] X.env = (false, eval e X.env) :: starEach [] X.env := by rfl) :
    PMk X (.Call (.Name c pp) [e] [] pos) (tMk1 C f ta) := by
  intro pins s σ H Q I hq
  obtain ⟨nm, q, N, bs, bm, sn, sub, ab, col, dd, k0, k1, k2, k3, k5, hC, hbm⟩ := T.T.cls
  refine wpAny_Call_Name_kw (ld_glob I hg T.cls ?_ hdb)
  refine PySem.W.callWith_K (h₀ := X.base) I.ok.mod.kin T.T.kC (thn (ha.run pos pins s σ H _ I hq) fun us s1 hz => ?_) hs rfl
  obtain ⟨vs, H1, I1, r1, v, ev, q1⟩ := hz
  subst ev
  obtain ⟨u, rfl, ru⟩ := vals1 r1
  refine ⟨I1.kIn, ?_⟩
  show wpAny _ _ (call (.ref C) [u]) _ _ _
  obtain ⟨hp, g, dr, tk, os⟩ := s1
  have kk : ∀ b o, hp.get? b = some o → ((hp.push (PySem.W.kdv_tup [u])).push (PySem.HandSPX.excO C hp.objs.size)).get? b = some o := fun b o e => Heap.get?_push_of_some _ (Heap.get?_push_of_some _ e)
  have sz : ((hp.push (PySem.W.kdv_tup [u])).push (PySem.HandSPX.excO C hp.objs.size)).objs.size = hp.objs.size + 2 := by rw [Heap.size_push, Heap.size_push]
  have nb : X.base.get? (hp.objs.size + 1) = none := by
    cases z : X.base.get? (hp.objs.size + 1) with
    | none => rfl
    | some o => exact absurd (Heap.lt_size (I1.bk _ _ z)) (Nat.not_lt.mpr (Nat.le_succ _))
  have ge : ((hp.push (PySem.W.kdv_tup [u])).push (PySem.HandSPX.excO C hp.objs.size)).get? (hp.objs.size + 1) = some (PySem.HandSPX.excO C hp.objs.size) := by heap_get
  refine wpAny_call (PySem.HandSPX.call_own F.excBase_ValueError (fun Y => PySem.HandSPX.refsVE_contains Y bm hbm) (I1.kIn _ _ hC) (PySem.W.looks_findIn I1.kIn T.ini) (fun self => PySem.W.bind_fn I1.kIn self T.tyI) (by show 1 ≤ sizeLine; rw [sizeLine_eq]; omega)
    (init_super T I1.mod (fun b o e => kk b o (I1.bk b o e)) nb (hr.make C [u] []).depth ge fun h1 tk1 t1 dx k1' dn dne hx1 hn1 => ⟨rfl, ?_⟩))
  rw [sz] at dn
  have hn : H1 dx = none := I1.hok.fresh (by show hp.objs.size ≤ dx; omega)
  have hna : H1 (hp.objs.size + 1) = none := I1.hok.fresh (Nat.le_succ _)
  obtain ⟨G, g1, g2⟩ := restrict h1 fun b => decide (b ≠ hp.objs.size + 1)
  have gk : ∀ b, b ≠ hp.objs.size + 1 → G.get? b = h1.get? b := fun b hb => g1 b (decide_eq_true hb)
  have ga : G.get? (hp.objs.size + 1) = none := g2 _ (by simp)
  have nha : ∀ {b : Addr} {o : Obj}, hp.get? b = some o → b ≠ hp.objs.size + 1 := fun {b o} z => Nat.ne_of_lt (Nat.lt_succ_of_lt (Heap.lt_size z))
  have kG : ∀ b o, hp.get? b = some o → G.get? b = some o := fun b o z => by
    rw [gk b (nha z)]
    exact k1' b o (nha z) (kk b o z)
  have I2 : Inv X pins σ (upd H1 dx (.xd [(f, v)])) ⟨G, g, dr, tk1, os⟩ := I1.laid (t' := tk1) (a := dx) (o := .xd [(f, v)]) (h' := G) kG (by show hp.objs.size ≤ dx; omega) ⟨_, hn1.at fun o y => (gk dx dne).trans y, fun y => by
    rw [lkp]
    by_cases e : y = f
    · rw [if_pos e, if_pos e]; exact ru
    · rw [if_neg e, if_neg e]; trivial⟩
  refine ⟨hp.objs.size + 1, _, _, ⟨G, g, dr, tk1, os⟩, _, .ref C, some dx, rfl, I2, fun b o z => ?_, ga, hx1, ⟨rfl, rfl⟩, rfl, rfl, ?_, rfl, I1.bare, raises_own T.T.exC T.T.tyC, q1 dx hn⟩
  · by_cases hb : b = hp.objs.size + 1
    · rw [hb, ga] at z; cases z
    · exact (gk b hb).symm.trans z
  · rw [upd_ne (Ne.symm dne)]; exact hna
end
end Pf
end

section
set_option Elab.async false
set_option linter.all false
set_option maxRecDepth 100000
/-! try: .. except X as n: y = n, the exception kept as a value. -/
namespace Pf
open PySem PySem.Spec PyProof.Rows L2
def KeptX (a : Addr) (cls : Value) (d : Option Addr) (φ : Heap → Prop) : Prop := ∀ h, φ h → ∃ o vs, h.get? a = some o ∧ o.cls = cls ∧ o.dict = d ∧ o.data = .fields vs
section
variable {X : Cx} {pins : List (Addr × Obj)} {σ : L2.St} {H : Hp} {s : Shared}
/-- a pinned object is tracked from now on -/
theorem trackP {a : Addr} {oe : Obj} (I : Inv X ((a, oe) :: pins) σ H s) (n0 : X.s_0.heap.get? a = none) (np : ∀ p ∈ X.pn ++ pins, p.1 ≠ a) : Inv X pins σ (upd H a (.ext fun h => h.get? a = some oe)) s := by
  obtain ⟨e0, hn, nL, nF, nC⟩ := I.pin (a, oe) (List.mem_append_right _ List.mem_cons_self)
  dsimp only at e0 hn nL nF nC
  have ne0 : ∀ b o, X.s_0.heap.get? b = some o → b ≠ a := fun b o e z => by rw [z, n0] at e; cases e
  have neH : ∀ b o, H b = some o → b ≠ a := fun b o e => ne_of_none e hn
  have ncell : ∀ x c, X.env.cells.lookup x = some c → c ≠ a := fun x c e z => by
    obtain ⟨v, o, ho, hd⟩ := I.cell x c e
    rw [z, e0] at ho
    cases ho
    exact nC v hd
  refine ⟨I.ok, I.os, I.bare, ⟨I.base.keep, I.base.slot, fun b o e n hx => ?_, I.base.there, fun b xs e => ?_, fun b o u e => ?_, fun b ps e => ?_⟩, I.loc, I.cell, ?_, fun x c e => ?_, fun p hp => ?_, fun b u e => ?_, I.len⟩
  · rw [upd_ne (ne0 b o e)]; exact I.base.free b o e n hx
  · have q := I.base.tups b xs e
    rw [upd_ne (neH b _ q)]; exact q
  · have q := I.base.frzs b o u e
    rw [upd_ne (neH b _ q)]; exact q
  · obtain ⟨m, q⟩ := I.base.tbls b ps e
    exact ⟨m, by rw [upd_ne (neH b _ q)]; exact q⟩
  · rw [upd_ne (Ne.symm nL)]; exact I.free
  · rw [upd_ne (ncell x c e)]; exact I.freeC x c e
  · obtain ⟨q1, q2, q3⟩ := I.pin p (by
      rcases List.mem_append.mp hp with z | z
      · exact List.mem_append_left _ z
      · exact List.mem_append_right _ (List.mem_cons_of_mem _ z))
    exact ⟨q1, by rw [upd_ne (np p hp)]; exact q2, q3⟩
  · by_cases hb : b = a
    · rw [hb, upd_same] at e
      cases e
      rw [hb]
      exact ⟨e0, ⟨oe, e0⟩, fun h1 h2 q k => k _ q⟩
    · rw [upd_ne hb] at e
      exact (I.hok b u e).stay (fun _ _ _ q => q) (fun c q => by rw [upd_ne (neH c _ q)]; exact q) fun c xs q => by rw [upd_ne (neH c _ q)]; exact q
end
/-- what the clause wishes: slot i is its name's; the exception is kept at a -/
def wKeep (K : PySem.W.Frag) (c : Value) (n i : Nat) (ts : Addr → Value → Option Addr → TS) (D : Ends) : WX := fun cls d σ H =>
  PySem.W.exmOne K cls c = some true ∧ (σ.length = n → ∀ a, H a = none → ts a cls d { nx := fun σ' H' => H' a = none → ∀ φ, KeptX a cls d φ → D.nx (List.set σ' i none) (upd H' a (.ext φ)), rt := fun _ _ => False } (List.set σ i (some (.ref a))) H)
section
variable {X : Cx} {x n : Str} {c : Value} {i : Nat} {body suite : List Stmt} {b0 : Stmt} {np pos pos' : Pos} {tb : WX → TS} {ts : Addr → Value → Option Addr → TS}
theorem ps_keep (hs : X.stack = X.env :: X.outer) (hf : X.env.frame = some X.env.locals) (hex : X.ex = []) (hN : X.N.Nodup) (hi : X.N[i]? = some n) (hln : X.env.kindOf n = some .local) (hc : Names X x c)
    (hb : ∀ (W : WX) (pn : List (Addr × Obj)) (xe : Value → Shared → Prop), Takes (X.tr pn xe) W → PassesOwn (model X.prog X.w) X.A X.env xe → PSs (X.tr pn xe) body (tb W))
    (hsu : ∀ (a : Addr) (oe : Obj) (cls : Value) (d : Option Addr) (pn : List (Addr × Obj)), Zc cls d oe → (∃ vs, oe.data = .fields vs) → PSs (X.suite a ((a, oe) :: pn)) (b0 :: suite) (ts a cls d)) :
    PS X (.Try body [.ExceptHandler (some (.Name x np)) (some n) (b0 :: suite) pos'] [] [] pos) (fun D σ H => tb (wKeep X.K c X.N.length i ts D) D σ H) := ⟨fun pins s σ H D I hq => by
  have ok := I.ok
  have hfr : X.A.frames = some (X.env :: X.outer) := by rw [ok.frames, hs]
  refine wpAny_Try_except ?_
  refine wpAny_mono ((hb (wKeep X.K c X.N.length i ts D) (X.pn ++ pins) (fun e s1 => wpAny (model X.prog X.w) X.A (noteFrame e X.env) (fun _ s2 => wpAny (model X.prog X.w) X.A (setFlight e none) (fun _ s3 =>
    wpAny (model X.prog X.w) X.A (handleBy e X.env [.ExceptHandler (some (.Name x np)) (some n) (b0 :: suite) pos']) (SP X pins D) X.xe s3) X.xe s2) X.xe s1) (fun u s' xx => ?_) PassesOwn.looking).run [] s σ H D (I.toTry _) hq) (fun f s1 hsp => ?_) (fun e s1 he => he)
  · obtain ⟨a, B, sI, pins1, σ1, H1, cls, d, rfl, J1, nb, up, sky, na, os, ag, hb1, hyes⟩ := xx
    have J : Inv X pins σ1 H1 sI := J1.ofTry ok
    have sky1 : Sky B (X.env :: X.outer) a (Zc cls d) X.env.locals s'.heap := by rw [← hs]; exact sky
    show wpAny (model X.prog X.w) X.A (noteFrame (.ref a) X.env) _ _ _
    refine Sky.land Zc.steady hfr hf sky1 fun h3 fl3 up3 => ?_
    have J3 : Inv X pins σ1 H1 { s' with heap := h3 } := J.landed nb fl3.1 (up.trans up3) os ag
    obtain ⟨oe3, vs3, he3, hz3, hd3⟩ := fl3.there
    have nfr : a ∉ frs (X.env :: X.outer) := fun hm => by
      obtain ⟨_, o1, e1, hnf⟩ := fl3.2.2.1.mem hm
      rw [he3] at e1
      cases e1
      exact hnf _ hd3
    have nL : a ≠ X.env.locals := fun z => nfr (List.mem_filterMap.mpr ⟨X.env, List.mem_cons_self, by rw [hf, z]⟩)
    have nF : a ∉ X.fs := fun hm => by
      obtain ⟨e, he, q⟩ := List.mem_filterMap.mp hm
      exact nfr (List.mem_filterMap.mpr ⟨e, List.mem_cons_of_mem _ he, q⟩)
    have gB : B.get? a = none := fl3.2.1
    have nI : sI.heap.get? a = none := by
      cases z : sI.heap.get? a with
      | none => rfl
      | some o =>
        rw [nb a o z (by rw [hs]; exact nfr)] at gB
        cases gB
    have n0 : X.s_0.heap.get? a = none := by
      cases z : X.s_0.heap.get? a with
      | none => rfl
      | some o =>
        obtain ⟨o2, z2⟩ := J.base.there a o z (by rw [hex]; exact fun y => nomatch y)
        rw [nI] at z2
        cases z2
    have npp : ∀ p ∈ X.pn ++ pins, p.1 ≠ a := fun p hp z => by
      have := (J.pin p hp).1
      rw [z, nI] at this
      cases this
    have S3 := J3.suite he3 hd3 na nL nF
    refine wpAny_handleBy_cons (codeAny_handlers_test ?_) (by intro q; cases q)
    have LT : PySem.W.Looks (model X.prog X.w) h3 (typeOf (.ref a)) cls := fun A Q E s k q => wpAny_typeOf_ref (k _ _ he3) (by rw [hz3.1]; exact q)
    have LM := PySem.W.exm_one (M := model X.prog X.w) (J3.kIn) LT hb1
    have test : ∀ {Q : Value → Shared → Prop} {E : Value → Shared → Prop}, Q c { s' with heap := h3 } → wpAny (model X.prog X.w) (X.A.mark (some (.ref a))) (eval (.Name x np) X.env) Q E { s' with heap := h3 } := fun {Q E} q => by
      obtain ⟨hg, hdb, hm | ⟨hm, hv, hnn⟩⟩ := hc
      · exact ld_glob (X := X.suite a ((a, oe3) :: (X.pn ++ pins))) S3 hg hm q hdb
      · exact ld_blt (X := X.suite a ((a, oe3) :: (X.pn ++ pins))) S3 hg hm hv q hnn hdb
    refine test (LM.here ?_)
    refine codeAny_handlers_suite_as ?_
    refine HandSPX.lands_againZ fl3 fun h4 fl4 up4 => ?_
    have J4 : Inv X pins σ1 H1 { s' with heap := h4 } := J.landed nb fl4.1 ((up.trans up3).trans up4) os ag
    obtain ⟨oe4, vs4, he4, hz4, hd4⟩ := fl4.there
    have S4 := J4.suite he4 hd4 na nL nF
    refine store_ok (X := X.suite a ((a, oe4) :: (X.pn ++ pins))) (v := .ref a) S4 hN hi (.inl hln) rfl (fun s5 S5 => ?_) (.inr hln)
    refine wpAny_mono ((hsu a oe4 cls d (X.pn ++ pins) hz4 ⟨_, hd4⟩).run [] s5 _ H1 _ S5 (hyes J.len a na)) (fun f s6 hsp => ?_) (fun _ _ z => z.elim)
    cases f with
    | next =>
      obtain ⟨σ6, H6, S6, q6⟩ := hsp
      have I6 : Inv X ((a, oe4) :: pins) σ6 H6 s6 := ⟨ok, S6.os, S6.bare, S6.base, S6.loc, S6.cell, S6.free, S6.freeC, fun p hp => S6.pin p (List.mem_append_left _ (by
        rcases List.mem_append.mp hp with z | z
        · exact List.mem_cons_of_mem _ (List.mem_append_left _ z)
        · rcases List.mem_cons.mp z with z | z
          · rw [z]; exact List.mem_cons_self
          · exact List.mem_cons_of_mem _ (List.mem_append_right _ z))), S6.hok, S6.len⟩
      refine gone_ok I6 hN hi hln fun s7 J7 => ?_
      have hn6 : H6 a = none := (I6.pin (a, oe4) (List.mem_append_right _ List.mem_cons_self)).2.1
      exact ⟨_, _, trackP J7 n0 npp, q6 hn6 _ fun h1 e => ⟨oe4, vs4, e, hz4.1, hz4.2, hd4⟩⟩
    | brk =>
      obtain ⟨σ6, H6, S6, q6⟩ := hsp
      exact q6.elim
    | cont =>
      obtain ⟨σ6, H6, S6, q6⟩ := hsp
      exact q6.elim
    | ret u =>
      obtain ⟨v6, σ6, H6, S6, r6, q6⟩ := hsp
      exact q6.elim
  · cases f with
    | next =>
      obtain ⟨σ1, H1, J1, q⟩ := hsp
      exact wpAny_execs_nil ⟨σ1, H1, J1.ofTry ok, q⟩
    | brk =>
      obtain ⟨σ1, H1, J1, q⟩ := hsp
      exact ⟨σ1, H1, J1.ofTry ok, q⟩
    | cont =>
      obtain ⟨σ1, H1, J1, q⟩ := hsp
      exact ⟨σ1, H1, J1.ofTry ok, q⟩
    | ret u =>
      obtain ⟨v, σ1, H1, J1, r, q⟩ := hsp
      exact ⟨v, σ1, H1, J1.ofTry ok, r, q⟩⟩
end
end Pf
end

section
set_option Elab.async false
set_option linter.all false
set_option maxRecDepth 100000
namespace Pf
open PySem PySem.Spec L2

/-! plain data -/
inductive D where
  | non | bl (b : Bool) | int (i : Int) | str (x : Str)
  | tup (xs : List D) | lst (xs : List D) | dic (kvs : List (D × D))
  | par (xs : List D) | drw | exc (c : Str) (p : Option (Str × D)) | gl (x : Str) | lam (a c : Addr) (q : Str) | frl (xs : List D)
  deriving Inhabited
/-- the state of the draws -/
structure DS where
  great : List Int
  cells : List Int
  rest : Int
  turn : Int
/-- what a slot holds: nothing told, plain data, a list or dict of its own -/
inductive SD where
  | no | val (d : D) | own (xs : List D) | ownd (kvs : List (D × D)) | lckd (kvs : List (D × D)) | lamA (a : Addr)
  deriving Inhabited
abbrev En := List SD
abbrev XV := Str × Option (Str × D)
inductive Res (α : Type) where
  | ok (a : α) (S : DS) | exc (x : XV) (S : DS) | bad
abbrev M (α : Type) := En → DS → Res α
inductive RS where
  | nx (ρ : En) (S : DS) | rt (d : D) (S : DS) | bk (ρ : En) (S : DS) | ct (ρ : En) (S : DS) | exc (x : XV) (S : DS) | bad
abbrev MS := En → DS → RS

/-- where the state of the draws stands; the tables of the code objects -/
structure StA where
  dr : Option (Addr × Addr × Addr)
  ne : ∀ a g c, dr = some (a, g, c) → g ≠ c
/-- the tables of the code objects, with the names of what they make -/
class TabsC where
  tb : List (Addr × Str)
variable [TabsC]
def drA : Option (Addr × Addr × Addr) → Addr → Prop
  | none, _ => False
  | some (a, g, c), x => x = a ∨ x = g ∨ x = c
def stA (st : StA) (x : Addr) : Prop := drA st.dr x ∨ ∃ q, (x, q) ∈ TabsC.tb
def DrOk : Option (Addr × Addr × Addr) → Hp → DS → Prop
  | none, _, _ => True
  | some (a, g, c), H, S => H a = some (.dK [(Sum.inr "great", .ref g), (Sum.inr "cells", .ref c), (Sum.inr "rest", .int S.rest), (Sum.inr "turn", .int S.turn)]) ∧
      H g = some (.lst (S.great.map V.int)) ∧ H c = some (.lst (S.cells.map V.int))
structure StOk (st : StA) (H : Hp) (S : DS) : Prop where
  dr : DrOk st.dr H S
  tb : LamX.Tabs TabsC.tb H

section
variable (K : PySem.W.Frag) (mg : Str → Option Value) (st : StA)
mutual
inductive Rep (H : Hp) (A : Addr → Prop) : V → D → Prop
  | non : Rep H A .non .non
  | bl (b : Bool) : Rep H A (.bl b) (.bl b)
  | int (i : Int) : Rep H A (.int i) (.int i)
  | str (x : Str) : Rep H A (.str x) (.str x)
  | tup {a : Addr} {vs : List V} {ds : List D} {ob : Obj} : ¬ A a → H a = some (.frz ob (.tup vs)) → ob.dict = none → Reps H A vs ds → Rep H A (.ref a) (.tup ds)
  | par {a : Addr} {vs : List V} {ds : List D} : ¬ A a → H a = some (.tup vs) → Reps H A vs ds → Rep H A (.ref a) (.par ds)
  | tupK {a : Addr} {vs : List V} {ds : List D} : SqT K (fun _ => none) a vs → (∀ o, K.lookup a = some o → o.dict = none) → Reps H A vs ds → Rep H A (.ref a) (.tup ds)
  | lst {a : Addr} {vs : List V} {ds : List D} : ¬ A a → H a = some (.lst vs) → Reps H A vs ds → Rep H A (.ref a) (.lst ds)
  | dic0 {a : Addr} : ¬ A a → H a = some (.dK []) → Rep H A (.ref a) (.dic [])
  | drw {a g c : Addr} : st.dr = some (a, g, c) → Rep H A (.ref a) .drw
  | exc0 {a C : Addr} {c : Str} {φ : Heap → Prop} : ¬ A a → mg c = some (.ref C) → H a = some (.ext φ) → (∀ h, φ h → ∃ o vs, h.get? a = some o ∧ o.cls = .ref C ∧ o.dict = none ∧ o.data = .fields vs) → Rep H A (.ref a) (.exc c none)
  | exc1 {a dx C : Addr} {c f : Str} {v : V} {d : D} {φ : Heap → Prop} : ¬ A a → ¬ A dx → mg c = some (.ref C) → H a = some (.ext φ) → (∀ h, φ h → ∃ o vs, h.get? a = some o ∧ o.cls = .ref C ∧ o.dict = some dx ∧ o.data = .fields vs) →
      H dx = some (.xd [(f, v)]) → Rep H A v d → Rep H A (.ref a) (.exc c (some (f, d)))
  | gl {x : Str} {a : Addr} : mg x = some (.ref a) → Rep H A (.ref a) (.gl x)
  | frl {a : Addr} {vs : List V} {ds : List D} : ¬ A a → Rd H a (.lst vs) → Reps H A vs ds → Rep H A (.ref a) (.frl ds)
  | frlK {a : Addr} {vs : List V} {ds : List D} : SqL K (fun _ => none) a vs → Reps H A vs ds → Rep H A (.ref a) (.frl ds)
  | lam {a c : Addr} {q : Str} : ¬ A c → H c = some (LamX.CodeO c q) → Rep H A (.ref a) (.lam a c q)
inductive Reps (H : Hp) (A : Addr → Prop) : List V → List D → Prop
  | nil : Reps H A [] []
  | cons {v : V} {d : D} {vs : List V} {ds : List D} : Rep H A v d → Reps H A vs ds → Reps H A (v :: vs) (d :: ds)
end
end

/-- what is not avoided stays; what is avoided anew was not there -/
structure Frm (A A' : Addr → Prop) (H H' : Hp) : Prop where
  keep : ∀ a o, H a = some o → ¬ A a → H' a = some o
  new : ∀ a, A' a → A a ∨ H a = none
theorem Frm.refl {A : Addr → Prop} {H : Hp} : Frm A A H H := ⟨fun _ _ h _ => h, fun _ h => .inl h⟩
theorem Frm.off {A A' : Addr → Prop} {H H' : Hp} (f : Frm A A' H H') {a : Addr} {o : HO} (h : H a = some o) (n : ¬ A a) : ¬ A' a := fun q => by
  rcases f.new a q with z | z
  · exact n z
  · rw [h] at z; cases z
theorem Frm.trans {A A1 A2 : Addr → Prop} {H H1 H2 : Hp} (f : Frm A A1 H H1) (g : Frm A1 A2 H1 H2) : Frm A A2 H H2 :=
  ⟨fun a o h n => g.keep a o (f.keep a o h n) (f.off h n), fun a q => by
    rcases g.new a q with z | z
    · exact f.new a z
    · by_cases ha : A a
      · exact .inl ha
      · refine .inr ?_
        cases e : H a with
        | none => rfl
        | some o => rw [f.keep a o e ha] at z; cases z⟩
theorem Frm.rd {A A' : Addr → Prop} {H H' : Hp} (f : Frm A A' H H') {a : Addr} {o : HO} (h : Rd H a o) (n : ¬ A a) : Rd H' a o := h.elim (fun z => .inl (f.keep _ _ z n)) fun ⟨u, z⟩ => .inr ⟨u, f.keep _ _ z n⟩
theorem Frm.offR {A A' : Addr → Prop} {H H' : Hp} (f : Frm A A' H H') {a : Addr} {o : HO} (h : Rd H a o) (n : ¬ A a) : ¬ A' a := h.elim (fun z => f.off z n) fun ⟨u, z⟩ => f.off z n
section
variable {K : PySem.W.Frag} {mg : Str → Option Value} {st : StA}
mutual
theorem Rep.frm {A A' : Addr → Prop} {H H' : Hp} (f : Frm A A' H H') : ∀ {v : V} {d : D}, Rep K mg st H A v d → Rep K mg st H' A' v d
  | _, _, .non => .non
  | _, _, .bl b => .bl b
  | _, _, .int b => .int b
  | _, _, .str b => .str b
  | _, _, .tup n h o r => .tup (f.off h n) (f.keep _ _ h n) o (Reps.frm f r)
  | _, _, .par n h r => .par (f.off h n) (f.keep _ _ h n) (Reps.frm f r)
  | _, _, .tupK h o r => .tupK h o (Reps.frm f r)
  | _, _, .lst n h r => .lst (f.off h n) (f.keep _ _ h n) (Reps.frm f r)
  | _, _, .dic0 n h => .dic0 (f.off h n) (f.keep _ _ h n)
  | _, _, .drw h => .drw h
  | _, _, .exc0 n m h p => .exc0 (f.off h n) m (f.keep _ _ h n) p
  | _, _, .exc1 n n2 m h p h2 r => .exc1 (f.off h n) (f.off h2 n2) m (f.keep _ _ h n) p (f.keep _ _ h2 n2) (Rep.frm f r)
  | _, _, .gl h => .gl h
  | _, _, .frl n h r => .frl (f.offR h n) (f.rd h n) (Reps.frm f r)
  | _, _, .frlK h r => .frlK h (Reps.frm f r)
  | _, _, .lam n h => .lam (f.off h n) (f.keep _ _ h n)
theorem Reps.frm {A A' : Addr → Prop} {H H' : Hp} (f : Frm A A' H H') : ∀ {vs : List V} {ds : List D}, Reps K mg st H A vs ds → Reps K mg st H' A' vs ds
  | _, _, .nil => .nil
  | _, _, .cons r t => .cons (Rep.frm f r) (Reps.frm f t)
end
theorem Rep.weak {A A' : Addr → Prop} {H : Hp} (f : ∀ a, A' a → A a) {v : V} {d : D} (r : Rep K mg st H A v d) : Rep K mg st H A' v d := r.frm ⟨fun _ _ h _ => h, fun a q => .inl (f a q)⟩
theorem Reps.weak {A A' : Addr → Prop} {H : Hp} (f : ∀ a, A' a → A a) {v : List V} {d : List D} (r : Reps K mg st H A v d) : Reps K mg st H A' v d := r.frm ⟨fun _ _ h _ => h, fun a q => .inl (f a q)⟩
theorem Reps.length {A : Addr → Prop} {H : Hp} : ∀ {vs : List V} {ds : List D}, Reps K mg st H A vs ds → vs.length = ds.length
  | _, _, .nil => rfl
  | _, _, .cons _ t => by simp [Reps.length t]
theorem Reps.append {A : Addr → Prop} {H : Hp} : ∀ {vs ws : List V} {ds es : List D}, Reps K mg st H A vs ds → Reps K mg st H A ws es → Reps K mg st H A (vs ++ ws) (ds ++ es)
  | _, _, _, _, .nil, s => s
  | _, _, _, _, .cons r t, s => .cons r (Reps.append t s)
theorem Reps.get {A : Addr → Prop} {H : Hp} : ∀ {vs : List V} {ds : List D} (i : Nat) {d : D}, Reps K mg st H A vs ds → ds[i]? = some d → ∃ v, vs[i]? = some v ∧ Rep K mg st H A v d
  | _, _, _, _, .nil, e => by simp at e
  | _, _, 0, d, .cons r _, e => by simp at e; subst e; exact ⟨_, rfl, r⟩
  | _, _, i + 1, d, .cons _ t, e => by
    obtain ⟨v, h1, h2⟩ := Reps.get i t (by simpa using e)
    exact ⟨v, by simpa using h1, h2⟩
theorem Reps.getV {A : Addr → Prop} {H : Hp} {vs : List V} {ds : List D} (i : Nat) {v : V} (r : Reps K mg st H A vs ds) (e : vs[i]? = some v) : ∃ d, ds[i]? = some d ∧ Rep K mg st H A v d := by
  have hl := r.length
  obtain ⟨h, _⟩ := List.getElem?_eq_some_iff.mp e
  obtain ⟨v', h1, h2⟩ := r.get i (List.getElem?_eq_getElem (by omega : i < ds.length))
  rw [e] at h1; cases h1
  exact ⟨_, List.getElem?_eq_getElem (by omega : i < ds.length), h2⟩
theorem Reps.set {A : Addr → Prop} {H : Hp} {v : V} {d : D} (q : Rep K mg st H A v d) : ∀ {vs : List V} {ds : List D} (i : Nat), Reps K mg st H A vs ds → Reps K mg st H A (vs.set i v) (ds.set i d)
  | _, _, _, .nil => .nil
  | _, _, 0, .cons _ t => .cons q t
  | _, _, i + 1, .cons r t => .cons r (Reps.set q i t)
theorem Reps.take {A : Addr → Prop} {H : Hp} : ∀ {vs : List V} {ds : List D} (i : Nat), Reps K mg st H A vs ds → Reps K mg st H A (vs.take i) (ds.take i)
  | _, _, i, .nil => by simpa using .nil
  | _, _, 0, .cons _ t => .nil
  | _, _, i + 1, .cons r t => .cons r (Reps.take i t)
theorem Reps.drop {A : Addr → Prop} {H : Hp} : ∀ {vs : List V} {ds : List D} (i : Nat), Reps K mg st H A vs ds → Reps K mg st H A (vs.drop i) (ds.drop i)
  | _, _, i, .nil => by simpa using .nil
  | _, _, 0, .cons r t => .cons r t
  | _, _, i + 1, .cons r t => Reps.drop i t
theorem Reps.eraseIdx {A : Addr → Prop} {H : Hp} : ∀ {vs : List V} {ds : List D} (i : Nat), Reps K mg st H A vs ds → Reps K mg st H A (vs.eraseIdx i) (ds.eraseIdx i)
  | _, _, i, .nil => by simpa using .nil
  | _, _, 0, .cons r t => t
  | _, _, i + 1, .cons r t => .cons r (Reps.eraseIdx i t)
theorem Reps.dropLast {A : Addr → Prop} {H : Hp} : ∀ {vs : List V} {ds : List D}, Reps K mg st H A vs ds → Reps K mg st H A vs.dropLast ds.dropLast
  | _, _, .nil => .nil
  | _, _, .cons r .nil => .nil
  | _, _, .cons r (.cons r2 t) => .cons r (Reps.dropLast (.cons r2 t))
theorem Reps.reverse {A : Addr → Prop} {H : Hp} : ∀ {vs : List V} {ds : List D}, Reps K mg st H A vs ds → Reps K mg st H A vs.reverse ds.reverse
  | _, _, .nil => .nil
  | _, _, .cons r t => by rw [List.reverse_cons, List.reverse_cons]; exact (Reps.reverse t).append (.cons r .nil)
end

/-- a dict's key -/
def keyD : D → Option Key
  | .int i => some (.inl i)
  | .str x => some (.inr x)
  | _ => none
inductive KReps (K : PySem.W.Frag) (mg : Str → Option Value) (st : StA) (H : Hp) (A : Addr → Prop) : List (Key × V) → List (D × D) → Prop
  | nil : KReps K mg st H A [] []
  | cons {k : Key} {v : V} {a d : D} {kv : List (Key × V)} {kd : List (D × D)} : keyD a = some k → Rep K mg st H A v d → KReps K mg st H A kv kd → KReps K mg st H A ((k, v) :: kv) ((a, d) :: kd)
theorem KReps.frm {K : PySem.W.Frag} {mg : Str → Option Value} {st : StA} {A A' : Addr → Prop} {H H' : Hp} (f : Frm A A' H H') : ∀ {vs : List (Key × V)} {ds : List (D × D)}, KReps K mg st H A vs ds → KReps K mg st H' A' vs ds
  | _, _, .nil => .nil
  | _, _, .cons e r t => .cons e (r.frm f) (KReps.frm f t)

/-! ### the slots -/
def isOwn : SD → Prop
  | .own _ => True
  | .ownd _ => True
  | .lckd _ => True
  | _ => False
def ownA (σ : St) (ρ : En) (a : Addr) : Prop := ∃ (i : Nat) (sd : SD), ρ[i]? = some sd ∧ isOwn sd ∧ σ[i]? = some (some (.ref a))
/-- what is avoided -/
def AV (O : Addr → Prop) (st : StA) (σ : St) (ρ : En) : Addr → Prop := fun a => O a ∨ stA st a ∨ ownA σ ρ a
/-- what is avoided ahead of and behind a def -/
def AV0 (O : Addr → Prop) (st : StA) : Addr → Prop := fun a => O a ∨ stA st a
section
variable (K : PySem.W.Frag) (mg : Str → Option Value)
inductive SlotOk (st : StA) (H : Hp) (A : Addr → Prop) : Option V → SD → Prop
  | no {o : Option V} : SlotOk st H A o .no
  | val {v : V} {d : D} : Rep K mg st H A v d → SlotOk st H A (some v) (.val d)
  | lam {a : Addr} : SlotOk st H A (some (.ref a)) (.lamA a)
  | own {a : Addr} {vs : List V} {ds : List D} : H a = some (.lst vs) → Reps K mg st H A vs ds → SlotOk st H A (some (.ref a)) (.own ds)
  | ownd {a : Addr} {kv : List (Key × V)} {kd : List (D × D)} : H a = some (.dK kv) → KReps K mg st H A kv kd → SlotOk st H A (some (.ref a)) (.ownd kd)
  | lckd {a : Addr} {kv : List (Key × V)} {kd : List (D × D)} {ob : Obj} : H a = some (.frz ob (.dK kv)) → KReps K mg st H A kv kd → SlotOk st H A (some (.ref a)) (.lckd kd)
/-- a tracked object that can be told from a code object -/
def Hard (H : Hp) (a : Addr) : Prop := ∃ o, H a = some o ∧ ∀ φ, o ≠ .ext φ
theorem Hard.ne {H : Hp} {a : Addr} (h : Hard H a) : H a ≠ none := fun z => by
  obtain ⟨o, e, _⟩ := h
  rw [z] at e; cases e
structure Sim (O : Addr → Prop) (st : StA) (σ : St) (H : Hp) (ρ : En) (S : DS) : Prop where
  len : σ.length = ρ.length
  slot : ∀ (i : Nat) (sd : SD), ρ[i]? = some sd → ∃ o, σ[i]? = some o ∧ SlotOk K mg st H (AV O st σ ρ) o sd
  inj : ∀ (i j : Nat) (s t : SD) (a : Addr), ρ[i]? = some s → ρ[j]? = some t → isOwn s → isOwn t → σ[i]? = some (some (.ref a)) → σ[j]? = some (some (.ref a)) → i = j
  far : ∀ a, ownA σ ρ a → ¬ O a ∧ ¬ stA st a
  there : ∀ a, O a → Hard H a
  state : StOk st H S
  sin : ∀ a, stA st a → H a ≠ none
  off : ∀ a, O a → ¬ stA st a
end
/-- in an expression all stays but the state of the draws -/
def FrE (st : StA) (H H' : Hp) : Prop := ∀ a o, H a = some o → ¬ stA st a → H' a = some o
theorem FrE.refl {st : StA} {H : Hp} : FrE st H H := fun _ _ h _ => h
theorem FrE.trans {st : StA} {H H1 H2 : Hp} (f : FrE st H H1) (g : FrE st H1 H2) : FrE st H H2 := fun a o h n => g a o (f a o h n) n
theorem FrE.laid {st : StA} {H : Hp} {p : Addr} {o : HO} (h : H p = none) : FrE st H (upd H p o) := fun a u e _ => by rw [upd_ne (ne_of_none e h)]; exact e
theorem FrE.frm {st : StA} {O : Addr → Prop} {σ : St} {ρ : En} {H H' : Hp} (f : FrE st H H') : Frm (AV O st σ ρ) (AV O st σ ρ) H H' :=
  ⟨fun a o h n => f a o h (fun q => n (.inr (.inl q))), fun a q => .inl q⟩
theorem StOk.sin {st : StA} {H : Hp} {S : DS} (h : StOk st H S) : ∀ a, stA st a → H a ≠ none := fun a q e => by
  rcases q with q | ⟨n, q⟩
  · have hd := h.dr
    cases hs : st.dr with
    | none => rw [hs] at q; exact q
    | some t =>
      rw [hs] at q hd
      obtain ⟨a1, g, c⟩ := t
      obtain ⟨h1, h2, h3⟩ := hd
      rcases q with rfl | rfl | rfl
      · rw [e] at h1; cases h1
      · rw [e] at h2; cases h2
      · rw [e] at h3; cases h3
  · obtain ⟨ps, h1, _⟩ := h.tb _ q
    dsimp only at h1
    rw [e] at h1; cases h1
theorem StOk.stay {st : StA} {H H' : Hp} {S : DS} (h : StOk st H S) (k1 : ∀ a o, stA st a → H a = some o → H' a = some o) (k2 : ∀ a φ, H a = some (.ext φ) → H' a = some (.ext φ)) : StOk st H' S := by
  refine ⟨?_, fun p hp => ?_⟩
  · have hd := h.dr
    have hk : ∀ a o, drA st.dr a → H a = some o → H' a = some o := fun a o q => k1 a o (.inl q)
    cases hs : st.dr with
    | none => trivial
    | some t =>
      rw [hs] at hd hk
      obtain ⟨a1, g, c⟩ := t
      obtain ⟨h1, h2, h3⟩ := hd
      exact ⟨hk _ _ (.inl rfl) h1, hk _ _ (.inr (.inl rfl)) h2, hk _ _ (.inr (.inr rfl)) h3⟩
  · obtain ⟨ps, h1, h2, h3⟩ := h.tb p hp
    refine ⟨ps, k1 _ _ (.inr ⟨p.2, hp⟩) h1, h2, fun pos cv hc => ?_⟩
    obtain ⟨c, e1, e2⟩ := h3 pos cv hc
    exact ⟨c, e1, k2 _ _ e2⟩
section
variable {K : PySem.W.Frag} {mg : Str → Option Value} {O : Addr → Prop} {st : StA} {σ : St} {H H' : Hp} {ρ : En} {S S' : DS}
theorem Sim.hard (s : Sim K mg O st σ H ρ S) {a : Addr} (h : ownA σ ρ a) : Hard H a := by
  obtain ⟨i, sd, h1, h2, h3⟩ := h
  obtain ⟨o, e, q⟩ := s.slot i sd h1
  rw [h3] at e; cases e
  cases q with
  | own h _ => exact ⟨_, h, fun φ z => by cases z⟩
  | ownd h _ => exact ⟨_, h, fun φ z => by cases z⟩
  | lckd h _ => exact ⟨_, h, fun φ z => by cases z⟩
  | no => exact h2.elim
  | lam => exact h2.elim
  | val => exact h2.elim
theorem Sim.owned (s : Sim K mg O st σ H ρ S) {a : Addr} (h : ownA σ ρ a) : ∃ o, H a = some o := (s.hard h).elim fun o z => ⟨o, z.1⟩
theorem Sim.av (s : Sim K mg O st σ H ρ S) {a : Addr} (h : AV O st σ ρ a) : H a ≠ none := by
  rcases h with h | h | h
  · exact (s.there a h).ne
  · exact s.sin a h
  · obtain ⟨vs, e⟩ := s.owned h
    rw [e]; simp
theorem Sim.new (s : Sim K mg O st σ H ρ S) {p : Addr} (h : H p = none) : ¬ AV O st σ ρ p := fun q => s.av q h
theorem Sim.ext (s : Sim K mg O st σ H ρ S) (f : FrE st H H') (q : StOk st H' S') : Sim K mg O st σ H' ρ S' := by
  refine ⟨s.len, fun i sd e => ?_, s.inj, s.far, fun a h => ?_, q, q.sin, s.off⟩
  · obtain ⟨o, e1, q1⟩ := s.slot i sd e
    refine ⟨o, e1, ?_⟩
    cases q1 with
    | no => exact .no
    | lam => exact .lam
    | val r => exact .val (r.frm f.frm)
    | own h r => exact .own (f _ _ h (s.far _ ⟨i, _, e, trivial, e1⟩).2) (r.frm f.frm)
    | ownd h r => exact .ownd (f _ _ h (s.far _ ⟨i, _, e, trivial, e1⟩).2) (r.frm f.frm)
    | lckd h r => exact .lckd (f _ _ h (s.far _ ⟨i, _, e, trivial, e1⟩).2) (r.frm f.frm)
  · obtain ⟨o, e1, e2⟩ := s.there a h
    exact ⟨o, f a o e1 (s.off a h), e2⟩
end
end Pf
end

section
set_option Elab.async false
set_option linter.all false
set_option maxRecDepth 100000
namespace Pf
open PySem PySem.Spec L2
variable [TabsC]

def bnd {α β : Type} (m : M α) (f : α → M β) : M β := fun ρ S => match m ρ S with
  | .ok a S' => f a ρ S'
  | .exc x S' => .exc x S'
  | .bad => .bad
def ret {α : Type} (a : α) : M α := fun _ S => .ok a S
def bad {α : Type} : M α := fun _ _ => .bad
/-- what an exception is -/
def XR (K : PySem.W.Frag) (mg : Str → Option Value) (st : StA) (H : Hp) (A : Addr → Prop) (cls : Value) (dx : Option Addr) : XV → Prop
  | (c, none) => ∃ C, mg c = some (.ref C) ∧ cls = .ref C ∧ dx = none
  | (c, some (f, d)) => ∃ C a v, mg c = some (.ref C) ∧ cls = .ref C ∧ dx = some a ∧ ¬ A a ∧ H a = some (.xd [(f, v)]) ∧ Rep K mg st H A v d

abbrev Rf (α β : Type) := (Addr → Prop) → StA → L2.St → En → Hp → α → β → Prop
def Stable {α β : Type} (K : PySem.W.Frag) (mg : Str → Option Value) (R : Rf α β) : Prop := ∀ O st σ ρ H H' a b, FrE st H H' → R O st σ ρ H a b → R O st σ ρ H' a b
section
variable (K : PySem.W.Frag) (mg : Str → Option Value)
/-- plain data -/
def RfD : Rf V D := fun O st σ ρ H v d => Rep K mg st H (AV O st σ ρ) v d
/-- to be read at once: plain data, or a list of one's own -/
def RfQ : Rf V D := fun O st σ ρ H v d => Rep K mg st H (AV O st σ ρ) v d ∨ ∃ a vs ds, v = .ref a ∧ d = .lst ds ∧ ¬ AV0 O st a ∧ H a = some (.lst vs) ∧ Reps K mg st H (AV O st σ ρ) vs ds
def RfB : Rf Bool Bool := fun _ _ _ _ _ b c => b = c
def RfL : Rf (List V) (List D) := fun O st σ ρ H v d => Reps K mg st H (AV O st σ ρ) v d
variable {K mg}
theorem RfD.stable : Stable K mg (RfD K mg) := fun _ _ _ _ _ _ _ _ f r => r.frm f.frm
theorem RfL.stable : Stable K mg (RfL K mg) := fun _ _ _ _ _ _ _ _ f r => r.frm f.frm
theorem RfB.stable : Stable K mg RfB := fun _ _ _ _ _ _ _ _ f r => r
theorem RfQ.stable : Stable K mg (RfQ K mg) := fun _ _ _ _ _ _ _ _ f r => by
  rcases r with r | ⟨a, vs, ds, e1, e2, n, h, r⟩
  · exact .inl (r.frm f.frm)
  · exact .inr ⟨a, vs, ds, e1, e2, n, f _ _ h (fun z => n (.inr z)), r.frm f.frm⟩
end

def Good {α β : Type} (K : PySem.W.Frag) (mg : Str → Option Value) (E : XK) (R : Rf α β) (O : Addr → Prop) (st : StA) (σ : L2.St) (ρ : En) (H : Hp) (r : Res β) (Q : α → Hp → Prop) : Prop := match r with
  | .ok d S' => ∀ v H', FrE st H H' → StOk st H' S' → R O st σ ρ H' v d → Q v H'
  | .exc x S' => ∀ cls dx H', FrE st H H' → StOk st H' S' → XR K mg st H' (AV0 O st) cls dx x → E cls dx H'
  | .bad => False
theorem Good.from {α β : Type} {K : PySem.W.Frag} {mg : Str → Option Value} {E : XK} {R : Rf α β} {O : Addr → Prop} {st : StA} {σ : L2.St} {ρ : En} {H H' : Hp} {r : Res β} {Q : α → Hp → Prop}
    (g : Good K mg E R O st σ ρ H r Q) (f : FrE st H H') : Good K mg E R O st σ ρ H' r Q := by
  cases r with
  | ok d S' => exact fun v H2 f2 s2 r2 => g v H2 (f.trans f2) s2 r2
  | exc x S' => exact fun c dx H2 f2 s2 r2 => g c dx H2 (f.trans f2) s2 r2
  | bad => exact g

section
variable (K : PySem.W.Frag) (mg : Str → Option Value) (E : XK)
def tG {α β : Type} (R : Rf α β) (m : M β) : L2.St → Hp → (α → Hp → Prop) → Prop := fun σ H Q =>
  ∃ O st ρ S, Sim K mg O st σ H ρ S ∧ Good K mg E R O st σ ρ H (m ρ S) Q
def tG1 {α β γ δ : Type} (R1 : Rf γ δ) (R : Rf α β) (x : γ) (k : δ → M β) : L2.St → Hp → (α → Hp → Prop) → Prop := fun σ H Q =>
  ∃ O st ρ S a, Sim K mg O st σ H ρ S ∧ R1 O st σ ρ H x a ∧ Good K mg E R O st σ ρ H (k a ρ S) Q
def tG2 {α β γ δ ε ζ : Type} (R1 : Rf γ δ) (R2 : Rf ε ζ) (R : Rf α β) (x : γ) (y : ε) (k : δ → ζ → M β) : L2.St → Hp → (α → Hp → Prop) → Prop := fun σ H Q =>
  ∃ O st ρ S a b, Sim K mg O st σ H ρ S ∧ R1 O st σ ρ H x a ∧ R2 O st σ ρ H y b ∧ Good K mg E R O st σ ρ H (k a b ρ S) Q
def tG3 {α β γ δ ε ζ η θ : Type} (R1 : Rf γ δ) (R2 : Rf ε ζ) (R3 : Rf η θ) (R : Rf α β) (x : γ) (y : ε) (z : η) (k : δ → ζ → θ → M β) : L2.St → Hp → (α → Hp → Prop) → Prop := fun σ H Q =>
  ∃ O st ρ S a b c, Sim K mg O st σ H ρ S ∧ R1 O st σ ρ H x a ∧ R2 O st σ ρ H y b ∧ R3 O st σ ρ H z c ∧ Good K mg E R O st σ ρ H (k a b c ρ S) Q
variable {K mg E}
theorem tG_bnd {α β γ δ : Type} {R1 : Rf γ δ} {R : Rf α β} {m : M δ} {k : δ → M β} {σ : L2.St} {H : Hp} {Q : α → Hp → Prop} (h : tG K mg E R (bnd m k) σ H Q) :
    tG K mg E R1 m σ H fun x H1 => tG1 K mg E R1 R x k σ H1 Q := by
  obtain ⟨O, st, ρ, S, s, g⟩ := h
  refine ⟨O, st, ρ, S, s, ?_⟩
  unfold bnd at g
  cases e : m ρ S with
  | ok d S' => rw [e] at g; exact fun v H' f q r => ⟨O, st, ρ, S', d, s.ext f q, r, g.from f⟩
  | exc x S' => rw [e] at g; exact g
  | bad => rw [e] at g; exact g
theorem tG1_bnd {α β γ δ ε ζ : Type} {R1 : Rf γ δ} {R2 : Rf ε ζ} {R : Rf α β} (st1 : Stable K mg R1) {x : γ} {m : δ → M ζ} {k : δ → ζ → M β} {σ : L2.St} {H : Hp} {Q : α → Hp → Prop}
    (h : tG1 K mg E R1 R x (fun a => bnd (m a) (k a)) σ H Q) : tG1 K mg E R1 R2 x m σ H fun y H1 => tG2 K mg E R1 R2 R x y k σ H1 Q := by
  obtain ⟨O, st, ρ, S, a, s, r1, g⟩ := h
  refine ⟨O, st, ρ, S, a, s, r1, ?_⟩
  dsimp only at g
  unfold bnd at g
  cases e : m a ρ S with
  | ok d S' => rw [e] at g; exact fun v H' f q r => ⟨O, st, ρ, S', a, d, s.ext f q, st1 _ _ _ _ _ _ _ _ f r1, r, g.from f⟩
  | exc x S' => rw [e] at g; exact g
  | bad => rw [e] at g; exact g
theorem tG1_k {α β γ δ ε ζ : Type} {R1 : Rf γ δ} {R2 : Rf ε ζ} {R : Rf α β} (st1 : Stable K mg R1) {x : γ} {m : M ζ} {k : δ → ζ → M β} {σ : L2.St} {H : Hp} {Q : α → Hp → Prop}
    (h : tG1 K mg E R1 R x (fun a => bnd m (k a)) σ H Q) : tG K mg E R2 m σ H fun y H1 => tG2 K mg E R1 R2 R x y k σ H1 Q := by
  obtain ⟨O, st, ρ, S, a, s, r1, g⟩ := tG1_bnd st1 h
  exact ⟨O, st, ρ, S, s, g⟩
theorem tG2_k {α β γ δ ε ζ η θ : Type} {R1 : Rf γ δ} {R2 : Rf ε ζ} {R3 : Rf η θ} {R : Rf α β} (st1 : Stable K mg R1) (st2 : Stable K mg R2) {x : γ} {y : ε} {m : M θ} {k : δ → ζ → θ → M β} {σ : L2.St} {H : Hp} {Q : α → Hp → Prop}
    (h : tG2 K mg E R1 R2 R x y (fun a b => bnd m (k a b)) σ H Q) : tG K mg E R3 m σ H fun z H1 => tG3 K mg E R1 R2 R3 R x y z k σ H1 Q := by
  obtain ⟨O, st, ρ, S, a, b, s, r1, r2, g⟩ := h
  refine ⟨O, st, ρ, S, s, ?_⟩
  dsimp only at g
  unfold bnd at g
  cases e : m ρ S with
  | ok d S' => rw [e] at g; exact fun v H' f q r => ⟨O, st, ρ, S', a, b, d, s.ext f q, st1 _ _ _ _ _ _ _ _ f r1, st2 _ _ _ _ _ _ _ _ f r2, r, g.from f⟩
  | exc x S' => rw [e] at g; exact g
  | bad => rw [e] at g; exact g
end

/-! ### the judgements -/
theorem PEimp {X : Cx} {e : Expr} {t t' : TE} (h : PE X e t) (i : ∀ σ H Q, t' σ H Q → t σ H Q) : PE X e t' := ⟨fun pins s σ H Q I w => h.run pins s σ H Q I (i σ H Q w)⟩
theorem PTimp {X : Cx} {e : Expr} {t t' : TT} (h : PT X e t) (i : ∀ σ H Q, t' σ H Q → t σ H Q) : PT X e t' := ⟨fun pins s σ H Q I w => h.run pins s σ H Q I (i σ H Q w)⟩
theorem PAimp {X : Cx} {e : List Expr} {t t' : TA} (h : PA X e t) (i : ∀ σ H Q, t' σ H Q → t σ H Q) : PA X e t' := ⟨fun p pins s σ H Q I w => h.run p pins s σ H Q I (i σ H Q w)⟩
abbrev RE (X : Cx) (E : XK) (e : Expr) (m : M D) : Prop := PE X e (tG X.K X.mg E (RfD X.K X.mg) m)
abbrev RQ (X : Cx) (E : XK) (e : Expr) (m : M D) : Prop := PE X e (tG X.K X.mg E (RfQ X.K X.mg) m)
abbrev RT (X : Cx) (E : XK) (e : Expr) (m : M Bool) : Prop := PT X e (tG X.K X.mg E RfB m)
abbrev RW (X : Cx) (E : XK) (e : Expr) (m : M Bool) : Prop := PW X e (tG X.K X.mg E RfB m)
abbrev RA (X : Cx) (E : XK) (es : List Expr) (m : M (List D)) : Prop := PA X es (tG X.K X.mg E (RfL X.K X.mg) m)

section
variable {X : Cx} {E : XK} {e a b c : Expr} {m ma mb mc : M D} {pos p1 p2 : Pos}
theorem RE.q (h : RE X E e m) : RQ X E e m := PEimp h fun σ H Q ⟨O, st, ρ, S, s, g⟩ => ⟨O, st, ρ, S, s, by
  cases hm : m ρ S with
  | ok d S' => rw [hm] at g; exact fun v H' f q r => g v H' f q (.inl r)
  | exc x S' => rw [hm] at g; exact g
  | bad => rw [hm] at g; exact g⟩

/-! ### names, constants -/
def mVar (i : Nat) : M D := fun ρ S => match ρ[i]? with
  | some (.val d) => .ok d S
  | _ => .bad
/-- a list of one's own, read -/
def mOwn (i : Nat) : M D := fun ρ S => match ρ[i]? with
  | some (.own ds) => .ok (.lst ds) S
  | some (.val d) => .ok d S
  | _ => .bad
theorem re_var {i : Nat} {e : Expr} (h : PE X e (tVar i)) : RE X E e (mVar i) := PEimp h fun σ H Q ⟨O, st, ρ, S, s, g⟩ => by
  unfold mVar at g
  split at g
  · rename_i d e
    obtain ⟨o, h1, h2⟩ := s.slot i _ e
    cases h2 with
    | val r => exact ⟨_, h1, g _ _ FrE.refl s.state r⟩
  · exact g.elim
theorem rq_var {i : Nat} {e : Expr} (h : PE X e (tVar i)) : RQ X E e (mOwn i) := PEimp h fun σ H Q ⟨O, st, ρ, S, s, g⟩ => by
  unfold mOwn at g
  split at g
  · rename_i d e
    obtain ⟨o, h1, h2⟩ := s.slot i _ e
    cases h2 with
    | own h r => exact ⟨_, h1, g _ _ FrE.refl s.state (.inr ⟨_, _, _, rfl, rfl, (fun z => z.elim (s.far _ ⟨i, _, e, trivial, h1⟩).1 (s.far _ ⟨i, _, e, trivial, h1⟩).2), h, r⟩)⟩
  · rename_i d e
    obtain ⟨o, h1, h2⟩ := s.slot i _ e
    cases h2 with
    | val r => exact ⟨_, h1, g _ _ FrE.refl s.state (.inl r)⟩
  · exact g.elim
theorem re_c {v : V} {d : D} (h : PE X e (tC v)) (r : ∀ st H A, Rep X.K X.mg st H A v d) : RE X E e (ret d) := PEimp h fun σ H Q ⟨O, st, ρ, S, s, g⟩ => g v H FrE.refl s.state (r _ _ _)
theorem re_int {i j} : RE X E (.Constant (.int i) j pos) (ret (.int i)) := re_c pe_int fun _ _ _ => .int i
theorem re_bl {b j} : RE X E (.Constant (.bool b) j pos) (ret (.bl b)) := re_c pe_bl fun _ _ _ => .bl b
theorem re_non {j} : RE X E (.Constant .none j pos) (ret .non) := re_c pe_non fun _ _ _ => .non
theorem re_str {x j} : RE X E (.Constant (.str x) j pos) (ret (.str x)) := re_c pe_str fun _ _ _ => .str x
/-- a def or class of the module as a value; a constant of the module -/
theorem re_gl {x : Str} {f : Addr} (hg : Gl X x) (hm : X.mg x = some (.ref f)) (hd : (x == ("__debug__" : Str)) = false := by decide) : RE X E (.Name x pos) (ret (.gl x)) :=
  re_c (pe_glob hg hm (v := .ref f) rfl hd) fun _ _ _ => .gl hm
theorem re_glc {x : Str} {u : Value} {v : V} {d : D} (hg : Gl X x) (hm : X.mg x = some u) (r : RelV v u) (h : ∀ st H A, Rep X.K X.mg st H A v d) (hd : (x == ("__debug__" : Str)) = false := by decide) : RE X E (.Name x pos) (ret d) :=
  re_c (pe_glob hg hm r hd) h

/-! ### one and two parts -/
theorem re_un1 {α β : Type} {R : Rf α β} {T : (V → Hp → (α → Hp → Prop) → Prop)} {k : D → M β} (hr : ∀ x σ H Q, tG1 X.K X.mg E (RfD X.K X.mg) R x k σ H Q → T x H Q) (σ : L2.St) (H : Hp) (Q : α → Hp → Prop)
    (h : tG X.K X.mg E R (bnd m k) σ H Q) : tG X.K X.mg E (RfD X.K X.mg) m σ H fun x H1 => T x H1 Q := by
  obtain ⟨O, st, ρ, S, s, g⟩ := tG_bnd (R1 := RfD X.K X.mg) h
  refine ⟨O, st, ρ, S, s, ?_⟩
  cases hm : m ρ S with
  | ok d S' => rw [hm] at g; exact fun v H' f q r => hr _ _ _ _ (g v H' f q r)
  | exc x S' => rw [hm] at g; exact g
  | bad => rw [hm] at g; exact g
theorem tG_mono {α β : Type} {R : Rf α β} {m : M β} {σ : L2.St} {H : Hp} {Q Q' : α → Hp → Prop} {K : PySem.W.Frag} {mg : Str → Option Value} (h : tG K mg E R m σ H Q) (i : ∀ a H, Q a H → Q' a H) : tG K mg E R m σ H Q' := by
  obtain ⟨O, st, ρ, S, s, g⟩ := h
  refine ⟨O, st, ρ, S, s, ?_⟩
  cases hm : m ρ S with
  | ok d S' => rw [hm] at g; exact fun v H' f q r => i _ _ (g v H' f q r)
  | exc x S' => rw [hm] at g; exact g
  | bad => rw [hm] at g; exact g
def bn2 {α β γ : Type} (ma : M α) (mb : M β) (k : α → β → M γ) : M γ := bnd ma fun x => bnd mb fun y => k x y
theorem tG_bn2 {K : PySem.W.Frag} {mg : Str → Option Value} {α β γ δ ε ζ : Type} {R1 : Rf γ δ} {R2 : Rf ε ζ} {R : Rf α β} (st1 : Stable K mg R1) {ma : M δ} {mb : M ζ} {k : δ → ζ → M β} {σ : L2.St} {H : Hp} {Q : α → Hp → Prop}
    (h : tG K mg E R (bn2 ma mb k) σ H Q) : tG K mg E R1 ma σ H fun x H1 => tG K mg E R2 mb σ H1 fun y H2 => tG2 K mg E R1 R2 R x y k σ H2 Q :=
  tG_mono (tG_bnd h) fun x H1 h1 => tG1_k st1 h1
/-- an operator by its rule; the parts read as R1, R2 -/
theorem re_op {op : Operator} {r : R2} {k : D → D → M D} (ho : OpR X (binaryOp op) r) (hr : ∀ x y σ H Q, tG2 X.K X.mg E (RfQ X.K X.mg) (RfQ X.K X.mg) (RfD X.K X.mg) x y k σ H Q → r x y H Q) (ha : RQ X E a ma) (hb : RQ X E b mb) :
    RE X E (.BinOp a op b pos) (bn2 ma mb k) := PEimp (pe_op ho ha hb) fun σ H Q h => tG_mono (tG_bn2 RfQ.stable h) fun x H1 h1 => tG_mono h1 fun y H2 h2 => hr x y σ H2 Q h2
end
end Pf
end

section
set_option Elab.async false
set_option linter.all false
set_option maxRecDepth 100000
namespace Pf
open PySem PySem.Spec L2
variable [TabsC]

def lft {α : Type} : Option α → M α
  | some a => ret a
  | none => bad
section
variable {K : PySem.W.Frag} {mg : Str → Option Value} {E : XK} {O : Addr → Prop} {st : StA} {σ : L2.St} {ρ : En} {S : DS} {H : Hp}
theorem tG2_lft {α β γ δ ε ζ : Type} {R1 : Rf γ δ} {R2 : Rf ε ζ} {R : Rf α β} {x : γ} {y : ε} {f : δ → ζ → Option β} {Q : α → Hp → Prop} (h : tG2 K mg E R1 R2 R x y (fun a b => lft (f a b)) σ H Q) :
    ∃ O st ρ S a b d, Sim K mg O st σ H ρ S ∧ R1 O st σ ρ H x a ∧ R2 O st σ ρ H y b ∧ f a b = some d ∧ ∀ v H', FrE st H H' → StOk st H' S → R O st σ ρ H' v d → Q v H' := by
  obtain ⟨O, st, ρ, S, a, b, s, r1, r2, g⟩ := h
  dsimp only at g
  cases e : f a b with
  | none => rw [e] at g; exact g.elim
  | some d => rw [e] at g; exact ⟨O, st, ρ, S, a, b, d, s, r1, r2, e, g⟩
theorem tG1_lft {α β γ δ : Type} {R1 : Rf γ δ} {R : Rf α β} {x : γ} {f : δ → Option β} {Q : α → Hp → Prop} (h : tG1 K mg E R1 R x (fun a => lft (f a)) σ H Q) :
    ∃ O st ρ S a d, Sim K mg O st σ H ρ S ∧ R1 O st σ ρ H x a ∧ f a = some d ∧ ∀ v H', FrE st H H' → StOk st H' S → R O st σ ρ H' v d → Q v H' := by
  obtain ⟨O, st, ρ, S, a, s, r1, g⟩ := h
  dsimp only at g
  cases e : f a with
  | none => rw [e] at g; exact g.elim
  | some d => rw [e] at g; exact ⟨O, st, ρ, S, a, d, s, r1, e, g⟩
theorem StOk.laid {p : Addr} {o : HO} (h : StOk st H S) (hp : H p = none) : StOk st (upd H p o) S :=
  h.stay (fun a u _ e => by rw [upd_ne (ne_of_none e hp)]; exact e) fun a φ e => by rw [upd_ne (ne_of_none e hp)]; exact e
abbrev Kq (K : PySem.W.Frag) (mg : Str → Option Value) (O : Addr → Prop) (st : StA) (σ : L2.St) (ρ : En) (H : Hp) := Rep K mg st H (AV O st σ ρ)
theorem Sim.mkL (s : Sim K mg O st σ H ρ S) {vs : List V} {ds : List D} {p : Addr} (r : Reps K mg st H (AV O st σ ρ) vs ds) (hp : H p = none) : Rep K mg st (upd H p (.lst vs)) (AV O st σ ρ) (.ref p) (.lst ds) :=
  .lst (s.new hp) upd_same (r.frm (FrE.frm (FrE.laid hp)))
theorem Sim.mkT (s : Sim K mg O st σ H ρ S) {vs : List V} {ds : List D} {p : Addr} {ob : Obj} (r : Reps K mg st H (AV O st σ ρ) vs ds) (hp : H p = none) (ho : ob.dict = none) : Rep K mg st (upd H p (.frz ob (.tup vs))) (AV O st σ ρ) (.ref p) (.tup ds) :=
  .tup (s.new hp) upd_same ho (r.frm (FrE.frm (FrE.laid hp)))
/-! what is read as plain data -/
theorem q_int {v : V} {i : Int} (r : RfQ K mg O st σ ρ H v (.int i)) : v = .int i := by
  rcases r with r | ⟨_, _, _, _, e, _⟩
  · cases r; rfl
  · cases e
theorem q_bl {v : V} {i : Bool} (r : RfQ K mg O st σ ρ H v (.bl i)) : v = .bl i := by
  rcases r with r | ⟨_, _, _, _, e, _⟩
  · cases r; rfl
  · cases e
theorem q_str {v : V} {i : Str} (r : RfQ K mg O st σ ρ H v (.str i)) : v = .str i := by
  rcases r with r | ⟨_, _, _, _, e, _⟩
  · cases r; rfl
  · cases e
theorem q_non {v : V} (r : RfQ K mg O st σ ρ H v .non) : v = .non := by
  rcases r with r | ⟨_, _, _, _, e, _⟩
  · cases r; rfl
  · cases e
theorem SqT.ofK {a : Addr} {vs : List V} (h : SqT K (fun _ => none) a vs) : SqT K H a vs := by
  rcases h with (h | ⟨_, h⟩) | h
  · cases h
  · cases h
  · exact .inr h
theorem SqT.ofF {a : Addr} {vs : List V} {ob : Obj} (h : H a = some (.frz ob (.tup vs))) : SqT K H a vs := .inl (.inr ⟨ob, h⟩)
theorem r_tup {v : V} {ds : List D} (r : Rep K mg st H (AV O st σ ρ) v (.tup ds)) : ∃ a vs, v = .ref a ∧ SqT K H a vs ∧ Reps K mg st H (AV O st σ ρ) vs ds := by
  cases r with
  | tup n h o r => exact ⟨_, _, rfl, SqT.ofF h, r⟩
  | tupK h o r => exact ⟨_, _, rfl, SqT.ofK h, r⟩
theorem r_par {v : V} {ds : List D} (r : Rep K mg st H (AV O st σ ρ) v (.par ds)) : ∃ a vs, v = .ref a ∧ SqT K H a vs ∧ Reps K mg st H (AV O st σ ρ) vs ds := by
  cases r with
  | par n h r => exact ⟨_, _, rfl, SqT.of h, r⟩
theorem q_tup {v : V} {ds : List D} (r : RfQ K mg O st σ ρ H v (.tup ds)) : ∃ a vs, v = .ref a ∧ SqT K H a vs ∧ Reps K mg st H (AV O st σ ρ) vs ds := by
  rcases r with r | ⟨_, _, _, _, e, _⟩
  · exact r_tup r
  · cases e
theorem q_lst {v : V} {ds : List D} (r : RfQ K mg O st σ ρ H v (.lst ds)) : ∃ a vs, v = .ref a ∧ H a = some (.lst vs) ∧ ¬ stA st a ∧ Reps K mg st H (AV O st σ ρ) vs ds := by
  rcases r with r | ⟨a, vs, es, e1, e2, n, h, r⟩
  · cases r with
    | lst n h r => exact ⟨_, _, rfl, h, fun z => n (.inr (.inl z)), r⟩
  · cases e2
    exact ⟨_, _, e1, h, (fun z => n (.inr z)), r⟩
end

/-! ### arithmetic -/
def dAdd : D → D → Option D
  | .int i, .int j => some (.int (i + j))
  | .str x, .str y => if x.length + y.length ≤ sizeLine then some (.str (x ++ y)) else none
  | .tup xs, .tup ys => if xs.length + ys.length ≤ sizeLine then some (.tup (xs ++ ys)) else none
  | .lst xs, .lst ys => if xs.length + ys.length ≤ sizeLine then some (.lst (xs ++ ys)) else none
  | _, _ => none
def dSub : D → D → Option D
  | .int i, .int j => some (.int (i - j))
  | _, _ => none
def dMod : D → D → Option D
  | .int i, .int j => if j ≠ 0 then some (.int (i.fmod j)) else none
  | _, _ => none
def dDiv : D → D → Option D
  | .int i, .int j => if j ≠ 0 ∧ j.natAbs < 1073741824 then some (.int (i.fdiv j)) else none
  | _, _ => none
def dPow : D → D → Option D
  | .int i, .int j => if 0 ≤ j ∧ j ≤ 1000000 ∧ i.natAbs < 2 ^ 64 then some (.int (i ^ j.toNat)) else none
  | _, _ => none
def dXor : D → D → Option D
  | .int i, .int j => some (.int (Builtin.bitXor i j))
  | _, _ => none
def dMul : D → D → Option D
  | .int i, .int j => if (-(2 ^ 64) < i ∧ i < 2 ^ 64) ∨ (-(2 ^ 64) < j ∧ j < 2 ^ 64) then some (.int (i * j)) else none
  | .lst xs, .int k => if -(2 ^ 63) ≤ k ∧ k < 2 ^ 63 ∧ xs.length * k.toNat ≤ sizeLine then some (.lst (List.replicate k.toNat xs).flatten) else none
  | .tup xs, .int k => if k = 1 then some (.tup xs) else if xs ≠ [] ∧ 2 ≤ k ∧ k ≤ 1000 ∧ xs.length ≤ 1000 then some (.tup (List.replicate k.toNat xs).flatten) else none
  | _, _ => none
section
variable {X : Cx} {E : XK} {a b : Expr} {ma mb : M D} {pos : Pos}
theorem re_opf {op : Operator} {r : R2} {f : D → D → Option D} (ho : OpR X (binaryOp op) r)
    (hr : ∀ O st σ ρ S H x y a b d (Q : VK), Sim X.K X.mg O st σ H ρ S → RfQ X.K X.mg O st σ ρ H x a → RfQ X.K X.mg O st σ ρ H y b → f a b = some d →
      (∀ v H', FrE st H H' → StOk st H' S → Rep X.K X.mg st H' (AV O st σ ρ) v d → Q v H') → r x y H Q) (ha : RQ X E a ma) (hb : RQ X E b mb) :
    RE X E (.BinOp a op b pos) (bn2 ma mb fun x y => lft (f x y)) :=
  re_op ho (fun x y σ H Q h => by
    obtain ⟨O, st, ρ, S, da, db, d, s, ra, rb, e, g⟩ := tG2_lft h
    exact hr O st σ ρ S H x y da db d Q s ra rb e g) ha hb
theorem re_add (ha : RQ X E a ma) (hb : RQ X E b mb) : RE X E (.BinOp a .Add b pos) (bn2 ma mb fun x y => lft (dAdd x y)) := by
  refine re_opf (OpR.or op_add (OpR.or op_add_str (OpR.or op_catF op_cat))) (fun O st σ ρ S H x y da db d Q s ra rb e g => ?_) ha hb
  unfold dAdd at e
  split at e
  · cases e; cases q_int ra; cases q_int rb
    exact .inl ⟨_, _, rfl, rfl, g _ _ FrE.refl s.state (.int _)⟩
  · split at e
    · rename_i hz
      cases e; cases q_str ra; cases q_str rb
      exact .inr (.inl ⟨_, _, rfl, rfl, hz, g _ _ FrE.refl s.state (.str _)⟩)
    · cases e
  · split at e
    · rename_i xs ys hz
      cases e
      obtain ⟨p, vs, rfl, h1, r1⟩ := q_tup ra
      obtain ⟨q, ws, rfl, h2, r2⟩ := q_tup rb
      refine .inr (.inr (.inl ⟨p, q, vs, ws, rfl, rfl, h1, h2, by rw [r1.length, r2.length]; exact hz, fun e => ?_, fun e1 e2 => ?_, fun e1 e2 l ob hl ho => ?_⟩))
      · subst e; cases r1
        rcases rb with rb | ⟨_, _, _, _, e, _⟩
        · exact g _ _ FrE.refl s.state rb
        · cases e
      · subst e2; cases r2
        rcases ra with ra | ⟨_, _, _, _, e, _⟩
        · exact g _ _ FrE.refl s.state (by rw [List.append_nil]; exact ra)
        · cases e
      · exact g _ _ (FrE.laid hl) (s.state.laid hl) (s.mkT (r1.append r2) hl ho)
    · cases e
  · split at e
    · rename_i xs ys hz
      cases e
      obtain ⟨p, vs, rfl, h1, _, r1⟩ := q_lst ra
      obtain ⟨q, ws, rfl, h2, _, r2⟩ := q_lst rb
      exact .inr (.inr (.inr ⟨p, q, vs, ws, rfl, rfl, h1, h2, by rw [r1.length, r2.length]; exact hz, fun l hl => g _ _ (FrE.laid hl) (s.state.laid hl) (s.mkL (r1.append r2) hl)⟩))
    · cases e
  · cases e
theorem re_sub (ha : RQ X E a ma) (hb : RQ X E b mb) : RE X E (.BinOp a .Sub b pos) (bn2 ma mb fun x y => lft (dSub x y)) := by
  refine re_opf op_sub (fun O st σ ρ S H x y da db d Q s ra rb e g => ?_) ha hb
  unfold dSub at e
  split at e
  · cases e; cases q_int ra; cases q_int rb
    exact ⟨_, _, rfl, rfl, g _ _ FrE.refl s.state (.int _)⟩
  · cases e
theorem re_mod (ha : RQ X E a ma) (hb : RQ X E b mb) : RE X E (.BinOp a .Mod b pos) (bn2 ma mb fun x y => lft (dMod x y)) := by
  refine re_opf op_modN (fun O st σ ρ S H x y da db d Q s ra rb e g => ?_) ha hb
  unfold dMod at e
  split at e
  · split at e
    · rename_i hz
      cases e; cases q_int ra; cases q_int rb
      exact ⟨_, _, rfl, rfl, hz, g _ _ FrE.refl s.state (.int _)⟩
    · cases e
  · cases e
theorem re_div (ha : RQ X E a ma) (hb : RQ X E b mb) : RE X E (.BinOp a .FloorDiv b pos) (bn2 ma mb fun x y => lft (dDiv x y)) := by
  refine re_opf op_fdivN (fun O st σ ρ S H x y da db d Q s ra rb e g => ?_) ha hb
  unfold dDiv at e
  split at e
  · split at e
    · rename_i hz
      cases e; cases q_int ra; cases q_int rb
      exact ⟨_, _, rfl, rfl, hz, g _ _ FrE.refl s.state (.int _)⟩
    · cases e
  · cases e
theorem re_pow (ha : RQ X E a ma) (hb : RQ X E b mb) : RE X E (.BinOp a .Pow b pos) (bn2 ma mb fun x y => lft (dPow x y)) := by
  refine re_opf op_pow (fun O st σ ρ S H x y da db d Q s ra rb e g => ?_) ha hb
  unfold dPow at e
  split at e
  · split at e
    · rename_i hz
      cases e; cases q_int ra; cases q_int rb
      exact ⟨_, _, rfl, rfl, hz, g _ _ FrE.refl s.state (.int _)⟩
    · cases e
  · cases e
theorem re_xor (ha : RQ X E a ma) (hb : RQ X E b mb) : RE X E (.BinOp a .BitXor b pos) (bn2 ma mb fun x y => lft (dXor x y)) := by
  refine re_opf op_xor (fun O st σ ρ S H x y da db d Q s ra rb e g => ?_) ha hb
  unfold dXor at e
  split at e
  · cases e; cases q_int ra; cases q_int rb
    exact ⟨_, _, rfl, rfl, g _ _ FrE.refl s.state (.int _)⟩
  · cases e
theorem reps_rep {K : PySem.W.Frag} {mg : Str → Option Value} {st : StA} {H : Hp} {A : Addr → Prop} {vs : List V} {ds : List D} (r : Reps K mg st H A vs ds) : ∀ k : Nat, Reps K mg st H A (List.replicate k vs).flatten (List.replicate k ds).flatten
  | 0 => .nil
  | k + 1 => by rw [List.replicate_succ, List.replicate_succ, List.flatten_cons, List.flatten_cons]; exact r.append (reps_rep r k)
set_option maxHeartbeats 1000000 in
theorem tuple_mul1 (l : Addr) (items : Array Value) (n : Nat) (dd : Option Addr) (sl : Array (Option Value)) (u : Tok) :
    Meets (Builtin.«tuple.__mul__» ⟨[.ref l, .int 1 u], []⟩) (fun _ R s => s.heap.get? l = some { cls := .type "tuple", dict := dd, data := .seq items n, slots := sl } ∧ R (.ok (.ret (.ref l))) s) :=
  .of_wp fun prog w A R s hs => by
    obtain ⟨hp, g, d, tk, os⟩ := s
    obtain ⟨hl, hR⟩ := hs
    have f1 := AutoSeq1.idx_int
    wp_walk using wpAny_loadPart' hl
    exact ⟨_, rfl, hR⟩
/-- a tuple taken once is itself -/
def rOnce (K : PySem.W.Frag) : R2 := fun x y H Q => ∃ l xs, x = .ref l ∧ y = .int 1 ∧ SqT K H l xs ∧ Q (.ref l) H
theorem op_once {X : Cx} : OpR X (binaryOp .Mult) (rOnce X.K) := by
  intro pins s σ H x y v u Q I rx ry hq
  obtain ⟨l, xs, rfl, rfl, hT, q⟩ := hq
  cases rx
  obtain ⟨t, rfl⟩ := ry
  obtain ⟨its, r, ⟨⟨cls, dd, data, sl⟩, ho, hc, n, hd⟩, hz⟩ := I.tuple hT
  simp only at hc hd
  subst hc hd
  exact wpAny_binaryOp_repeat_ref (T := "tuple") (U := "int") (by decide) ⟨_, ho, rfl⟩ (fun s1 => typeIs_int s1 1 t) noFill_tuple_mul F.fills_int_mul F.slot_int_rmul repeat_tuple F.slot_int_index.lookup
    (call_meets F.slot_int_rmul (typeIs_int s 1 t) F.entry_int_rmul (F.args_int_rmul_2 _ _) (int_rmul_tuple 1 t l its.toArray n dd sl)
      ⟨ho, rfl, ⟨_, ho, rfl⟩, call_meets F.slot_tuple_mul ⟨_, ho, rfl⟩ F.entry_tuple_mul (F.args_tuple_mul_2 _ _) (tuple_mul1 l its.toArray n dd sl t) ⟨ho, ⟨.ref l, H, I, rfl, q⟩⟩⟩)
theorem re_mul (ha : RQ X E a ma) (hb : RQ X E b mb) : RE X E (.BinOp a .Mult b pos) (bn2 ma mb fun x y => lft (dMul x y)) := by
  refine re_opf (OpR.or op_mul (OpR.or op_rep (OpR.or op_once op_repF))) (fun O st σ ρ S H x y da db d Q s ra rb e g => ?_) ha hb
  unfold dMul at e
  split at e
  · split at e
    · rename_i hz
      cases e; cases q_int ra; cases q_int rb
      exact .inl ⟨_, _, rfl, rfl, hz, g _ _ FrE.refl s.state (.int _)⟩
    · cases e
  · split at e
    · rename_i hz
      cases e; cases q_int rb
      obtain ⟨p, vs, rfl, h1, _, r1⟩ := q_lst ra
      exact .inr (.inl ⟨p, _, vs, rfl, rfl, h1, hz.1, hz.2.1, by rw [r1.length]; exact hz.2.2, fun l hl => g _ _ (FrE.laid hl) (s.state.laid hl) (s.mkL (reps_rep r1 _) hl)⟩)
    · cases e
  · split at e
    · rename_i hz
      subst hz
      cases e; cases q_int rb
      obtain ⟨p, vs, rfl, h1, r1⟩ := q_tup ra
      rcases ra with ra | ⟨_, _, _, _, e, _⟩
      · exact .inr (.inr (.inl ⟨p, vs, rfl, rfl, h1, g _ _ FrE.refl s.state ra⟩))
      · cases e
    · split at e
      · rename_i hz
        cases e; cases q_int rb
        obtain ⟨p, vs, rfl, h1, r1⟩ := q_tup ra
        exact .inr (.inr (.inr ⟨p, _, vs, rfl, rfl, h1, fun z => hz.1 (by subst z; cases r1; rfl), hz.2.1, hz.2.2.1, by rw [r1.length]; exact hz.2.2.2, fun l ob hl ho => g _ _ (FrE.laid hl) (s.state.laid hl) (s.mkT (reps_rep r1 _) hl ho)⟩))
      · cases e
  · cases e
end

/-! ### == over data -/
mutual
def toP : D → Option PyData
  | .non => some .none
  | .bl b => some (.bool b)
  | .int i => some (.int i)
  | .str x => some (.str x)
  | .tup xs => (toPs xs).map .tuple
  | .lst xs => (toPs xs).map .list
  | _ => none
def toPs : List D → Option (List PyData)
  | [] => some []
  | x :: xs => match toP x, toPs xs with
    | some a, some as => some (a :: as)
    | _, _ => none
end
section
variable {K : PySem.W.Frag} {mg : Str → Option Value} {O : Addr → Prop} {st : StA} {H : Hp} {A : Addr → Prop}
mutual
theorem Rep.dp : ∀ {v : V} {d : D} {p : PyData}, Rep K mg st H A v d → toP d = some p → Dp K H v p
  | _, _, _, .non, e => by simp [toP] at e; subst e; exact .non
  | _, _, _, .bl b, e => by simp [toP] at e; subst e; exact .bl b
  | _, _, _, .int b, e => by simp [toP] at e; subst e; exact .int b
  | _, _, _, .str b, e => by simp [toP] at e; subst e; exact .str b
  | _, _, _, .par _ _ _, e => by simp [toP] at e
  | _, _, _, .tup n h o r, e => by
    simp only [toP, Option.map_eq_some_iff] at e
    obtain ⟨ps, e1, rfl⟩ := e
    exact .tup (SqT.ofF h) (Reps.dp r e1)
  | _, _, _, .tupK h o r, e => by
    simp only [toP, Option.map_eq_some_iff] at e
    obtain ⟨ps, e1, rfl⟩ := e
    exact .tup (SqT.ofK h) (Reps.dp r e1)
  | _, _, _, .lst n h r, e => by
    simp only [toP, Option.map_eq_some_iff] at e
    obtain ⟨ps, e1, rfl⟩ := e
    exact .lst (SqL.of h) (Reps.dp r e1)
  | _, _, _, .dic0 _ _, e => by simp [toP] at e
  | _, _, _, .drw _, e => by simp [toP] at e
  | _, _, _, .exc0 _ _ _ _, e => by simp [toP] at e
  | _, _, _, .exc1 _ _ _ _ _ _ _, e => by simp [toP] at e
  | _, _, _, .gl _, e => by simp [toP] at e
  | _, _, _, .lam _ _, e => by simp [toP] at e
  | _, _, _, .frl _ _ _, e => by simp [toP] at e
  | _, _, _, .frlK _ _, e => by simp [toP] at e
theorem Reps.dp : ∀ {vs : List V} {ds : List D} {ps : List PyData}, Reps K mg st H A vs ds → toPs ds = some ps → DpAll K H vs ps
  | _, _, _, .nil, e => by simp [toPs] at e; subst e; exact .nil
  | _, _, _, .cons r t, e => by
    simp only [toPs] at e
    split at e
    · rename_i a as h1 h2
      cases e
      exact .cons (Rep.dp r h1) (Reps.dp t h2)
    · cases e
end
theorem RfQ.dp {σ : L2.St} {ρ : En} {v : V} {d : D} {p : PyData} (r : RfQ K mg O st σ ρ H v d) (e : toP d = some p) : Dp K H v p := by
  rcases r with r | ⟨a, vs, ds, rfl, rfl, _, h, r⟩
  · exact r.dp e
  · simp only [toP, Option.map_eq_some_iff] at e
    obtain ⟨ps, e1, rfl⟩ := e
    exact .lst (SqL.of h) (Reps.dp r e1)
end
/-- a == b -/
def dEq : D → D → Option Bool
  | .int i, .int j => some (decide (i = j))
  | .bl i, .bl j => some (decide (i = j))
  | .str i, .str j => some (decide (i = j))
  | .non, .non => some true
  | a, b => match toP a, toP b with
    | some p, some q => if SeqAt.shaped p = true ∧ SeqAt.shaped q = true then some (PyData.eqv p q) else none
    | _, _ => none
theorem dEq_cases {a b : D} {k : Bool} (h : dEq a b = some k) : (∃ i j, a = .int i ∧ b = .int j ∧ k = decide (i = j)) ∨ (∃ i j, a = .bl i ∧ b = .bl j ∧ k = decide (i = j)) ∨ (∃ i j, a = .str i ∧ b = .str j ∧ k = decide (i = j)) ∨
    (a = .non ∧ b = .non ∧ k = true) ∨ ∃ p q, toP a = some p ∧ toP b = some q ∧ SeqAt.shaped p = true ∧ SeqAt.shaped q = true ∧ k = PyData.eqv p q := by
  unfold dEq at h
  split at h
  · cases h; exact .inl ⟨_, _, rfl, rfl, rfl⟩
  · cases h; exact .inr (.inl ⟨_, _, rfl, rfl, rfl⟩)
  · cases h; exact .inr (.inr (.inl ⟨_, _, rfl, rfl, rfl⟩))
  · cases h; exact .inr (.inr (.inr (.inl ⟨rfl, rfl, rfl⟩)))
  · split at h
    · rename_i p q h1 h2
      split at h
      · rename_i hs
        cases h
        exact .inr (.inr (.inr (.inr ⟨p, q, h1, h2, hs.1, hs.2, rfl⟩)))
      · cases h
    · cases h
def mB (f : Option Bool) : Option D := f.map .bl
section
variable {X : Cx} {E : XK} {a b : Expr} {ma mb : M D} {pos : Pos}
/-- a comparison by its rule, whose answer is a bool -/
theorem cmp_h {r : R2} {f : D → D → Option Bool}
    (hr : ∀ O st σ ρ S H x y a b k (Q : VK), Sim X.K X.mg O st σ H ρ S → RfQ X.K X.mg O st σ ρ H x a → RfQ X.K X.mg O st σ ρ H y b → f a b = some k → Q (.bl k) H → r x y H Q)
    {x y : V} {σ : L2.St} {H : Hp} {Q : VK} (h : tG2 X.K X.mg E (RfQ X.K X.mg) (RfQ X.K X.mg) (RfD X.K X.mg) x y (fun x y => lft (mB (f x y))) σ H Q) : r x y H Q := by
  obtain ⟨O, st, ρ, S, da, db, d, s, ra, rb, e, g⟩ := tG2_lft h
  unfold mB at e
  cases e2 : f da db with
  | none => rw [e2] at e; cases e
  | some k =>
    rw [e2] at e
    cases e
    exact hr O st σ ρ S H x y da db k Q s ra rb e2 (g _ _ FrE.refl s.state (.bl k))
theorem re_cmpf {op : CmpOp} {r : R2} {f : D → D → Option Bool} (ho : OpR X (compareOp op) r)
    (hr : ∀ O st σ ρ S H x y a b k (Q : VK), Sim X.K X.mg O st σ H ρ S → RfQ X.K X.mg O st σ ρ H x a → RfQ X.K X.mg O st σ ρ H y b → f a b = some k → Q (.bl k) H → r x y H Q)
    (ha : RQ X E a ma) (hb : RQ X E b mb) (hm : behindInMarks op b = false) : RE X E (.Compare a [op] [b] pos) (bn2 ma mb fun x y => lft (mB (f x y))) :=
  PEimp (pe_cmpR ho ha hb hm) fun σ H Q h => tG_mono (tG_bn2 RfQ.stable h) fun x H1 h1 => tG_mono h1 fun y H2 h2 => cmp_h hr h2
/-- what a comparison's rule gives of f -/
def CmpOk (X : Cx) (op : CmpOp) (f : D → D → Option Bool) : Prop := ∃ r : R2, OpR X (compareOp op) r ∧
    ∀ O st σ ρ S H x y a b k (Q : VK), Sim X.K X.mg O st σ H ρ S → RfQ X.K X.mg O st σ ρ H x a → RfQ X.K X.mg O st σ ρ H y b → f a b = some k → Q (.bl k) H → r x y H Q
theorem re_cmp {op : CmpOp} {f : D → D → Option Bool} (h : CmpOk X op f) (ha : RQ X E a ma) (hb : RQ X E b mb) (hm : behindInMarks op b = false) : RE X E (.Compare a [op] [b] pos) (bn2 ma mb fun x y => lft (mB (f x y))) := by
  obtain ⟨r, ho, hr⟩ := h
  exact re_cmpf ho hr ha hb hm
theorem dec_eq_int {i j : Int} : decide (V.int i = V.int j) = decide (i = j) := by by_cases h : i = j <;> simp [h]
theorem dec_eq_bl {i j : Bool} : decide (V.bl i = V.bl j) = decide (i = j) := by by_cases h : i = j <;> simp [h]
theorem dec_eq_str {i j : Str} : decide (V.str i = V.str j) = decide (i = j) := by by_cases h : i = j <;> simp [h]
theorem c_eq (hu : X.A.units + 64 < cLine) : CmpOk X .Eq dEq := by
  refine ⟨_, OpR.or op_eq (op_eqD hu), fun O st σ ρ S H x y da db k Q s ra rb e q => ?_⟩
  rcases dEq_cases e with ⟨i, j, rfl, rfl, rfl⟩ | ⟨i, j, rfl, rfl, rfl⟩ | ⟨i, j, rfl, rfl, rfl⟩ | ⟨rfl, rfl, rfl⟩ | ⟨p, r, h1, h2, h3, h4, rfl⟩
  · cases q_int ra; cases q_int rb; exact .inl ⟨rfl, by rw [dec_eq_int]; exact q⟩
  · cases q_bl ra; cases q_bl rb; exact .inl ⟨rfl, by rw [dec_eq_bl]; exact q⟩
  · cases q_str ra; cases q_str rb; exact .inl ⟨rfl, by rw [dec_eq_str]; exact q⟩
  · cases q_non ra; cases q_non rb; exact .inl ⟨rfl, q⟩
  · exact .inr ⟨p, r, ra.dp h1, rb.dp h2, h3, h4, q⟩
def dNe (a b : D) : Option Bool := (dEq a b).map (!·)
theorem c_ne (hu : X.A.units + 64 < cLine) : CmpOk X .NotEq dNe := by
  refine ⟨_, OpR.or op_ne (op_neD hu), fun O st σ ρ S H x y da db k Q s ra rb e q => ?_⟩
  unfold dNe at e
  simp only [Option.map_eq_some_iff] at e
  obtain ⟨k', e, rfl⟩ := e
  rcases dEq_cases e with ⟨i, j, rfl, rfl, rfl⟩ | ⟨i, j, rfl, rfl, rfl⟩ | ⟨i, j, rfl, rfl, rfl⟩ | ⟨rfl, rfl, rfl⟩ | ⟨p, r, h1, h2, h3, h4, rfl⟩
  · cases q_int ra; cases q_int rb; exact .inl ⟨rfl, by rw [dec_eq_int]; exact q⟩
  · cases q_bl ra; cases q_bl rb; exact .inl ⟨rfl, by rw [dec_eq_bl]; exact q⟩
  · cases q_str ra; cases q_str rb; exact .inl ⟨rfl, by rw [dec_eq_str]; exact q⟩
  · cases q_non ra; cases q_non rb; exact .inl ⟨rfl, q⟩
  · exact .inr ⟨p, r, ra.dp h1, rb.dp h2, h3, h4, q⟩
end
end Pf
end

section
set_option Elab.async false
set_option linter.all false
set_option maxRecDepth 100000
namespace Pf
open PySem PySem.Spec L2
variable [TabsC]

/-! ### order, is, in -/
def intsD : List D → Option (List Int)
  | [] => some []
  | .int i :: xs => (intsD xs).map (i :: ·)
  | _ :: _ => none
theorem ints_vs {K : PySem.W.Frag} {mg : Str → Option Value} {st : StA} {H : Hp} {A : Addr → Prop} : ∀ {vs : List V} {ds : List D} {ns : List Int}, Reps K mg st H A vs ds → intsD ds = some ns → vs = ns.map V.int
  | _, _, _, .nil, e => by simp [intsD] at e; subst e; rfl
  | _, _, _, .cons (d := d) r t, e => by
    cases d <;> simp only [intsD] at e <;> try (cases e)
    simp only [Option.map_eq_some_iff] at e
    obtain ⟨ms, e1, rfl⟩ := e
    cases r
    rw [ints_vs t e1]
    rfl
def dLt : D → D → Option Bool
  | .int i, .int j => some (decide (i < j))
  | .str i, .str j => some (decide (i.cps.toList < j.cps.toList))
  | .tup xs, .tup ys => match intsD xs, intsD ys with
    | some ns, some ms => some (HT.lexLt ns ms)
    | _, _ => none
  | _, _ => none
def dLe : D → D → Option Bool
  | .int i, .int j => some (decide (i ≤ j))
  | _, _ => none
def dGt : D → D → Option Bool
  | .int i, .int j => some (decide (j < i))
  | _, _ => none
def dGe : D → D → Option Bool
  | .int i, .int j => some (decide (j ≤ i))
  | _, _ => none
def isNon : D → Bool
  | .non => true
  | _ => false
def dIs : D → D → Option Bool
  | a, .non => some (isNon a)
  | .bl i, .bl j => some (decide (i = j))
  | .non, .bl _ => some false
  | _, _ => none
def dIsNot (a b : D) : Option Bool := (dIs a b).map (!·)
def dIn (x : D) (y : D) : Option Bool := match toP x, toP y with
  | some p, some (.list ps) => if SeqAt.shaped p = true ∧ SeqAt.shaped (.list ps) = true then some (ps.any fun z => PyData.eqv z p) else none
  | some p, some (.tuple ps) => if SeqAt.shaped p = true ∧ SeqAt.shaped (.tuple ps) = true then some (ps.any fun z => PyData.eqv z p) else none
  | _, _ => none
def dNotIn (a b : D) : Option Bool := (dIn a b).map (!·)
section
variable {X : Cx} {E : XK} {a b c : Expr} {ma mb mc : M D} {pos : Pos}
theorem c_lt (hu : X.A.units < cLine) : CmpOk X .Lt dLt := by
  refine ⟨_, OpR.or op_lt (OpR.or op_lt_str (op_ltT hu)), fun O st σ ρ S H x y da db k Q s ra rb e q => ?_⟩
  unfold dLt at e
  split at e
  · cases e; cases q_int ra; cases q_int rb; exact .inl ⟨_, _, rfl, rfl, q⟩
  · cases e; cases q_str ra; cases q_str rb; exact .inr (.inl ⟨_, _, rfl, rfl, q⟩)
  · split at e
    · rename_i ns ms h1 h2
      cases e
      obtain ⟨p, vs, rfl, g1, r1⟩ := q_tup ra
      obtain ⟨p2, ws, rfl, g2, r2⟩ := q_tup rb
      rw [ints_vs r1 h1] at g1
      rw [ints_vs r2 h2] at g2
      exact .inr (.inr ⟨p, p2, ns, ms, rfl, rfl, g1, g2, q⟩)
    · cases e
  · cases e
theorem c_le : CmpOk X .LtE dLe := by
  refine ⟨_, op_le, fun O st σ ρ S H x y da db k Q s ra rb e q => ?_⟩
  unfold dLe at e
  split at e
  · cases e; cases q_int ra; cases q_int rb; exact ⟨_, _, rfl, rfl, q⟩
  · cases e
theorem c_gt : CmpOk X .Gt dGt := by
  refine ⟨_, op_gt, fun O st σ ρ S H x y da db k Q s ra rb e q => ?_⟩
  unfold dGt at e
  split at e
  · cases e; cases q_int ra; cases q_int rb; exact ⟨_, _, rfl, rfl, q⟩
  · cases e
theorem c_ge : CmpOk X .GtE dGe := by
  refine ⟨_, op_ge, fun O st σ ρ S H x y da db k Q s ra rb e q => ?_⟩
  unfold dGe at e
  split at e
  · cases e; cases q_int ra; cases q_int rb; exact ⟨_, _, rfl, rfl, q⟩
  · cases e
theorem rq_non {K : PySem.W.Frag} {mg : Str → Option Value} {O : Addr → Prop} {st : StA} {σ : L2.St} {ρ : En} {H : Hp} {v : V} {d : D} (r : RfQ K mg O st σ ρ H v d) : decide (v = .non) = isNon d := by
  rcases r with r | ⟨_, _, _, rfl, rfl, _⟩
  · cases r <;> rfl
  · rfl
theorem isB_gen {X : Cx} : OpR X (compareOp .Is) (fun x y H Q => x = .non ∧ (∃ b, y = .bl b) ∧ Q (.bl false) H) := by
  intro pins s σ H x y v u Q I rx ry h
  obtain ⟨rfl, ⟨b, rfl⟩, q⟩ := h
  cases rx; cases ry
  exact wpAny_of_eq (a := Value.bool false) (by first | rfl | (cases b <;> rfl)) ⟨.bl false, H, I, rfl, q⟩
theorem c_is : CmpOk X .Is dIs := by
  refine ⟨_, OpR.or op_isN (OpR.or op_isBl isB_gen), fun O st σ ρ S H x y da db k Q s ra rb e q => ?_⟩
  unfold dIs at e
  split at e
  · cases e; cases q_non rb; exact .inl ⟨rfl, by rw [rq_non ra]; exact q⟩
  · cases e; cases q_bl ra; cases q_bl rb; exact .inr (.inl ⟨_, _, rfl, rfl, q⟩)
  · cases e; cases q_non ra; cases q_bl rb; exact .inr (.inr ⟨rfl, ⟨_, rfl⟩, q⟩)
  · cases e
theorem isNB_gen {X : Cx} : OpR X (compareOp .IsNot) (fun x y H Q => x = .non ∧ (∃ b, y = .bl b) ∧ Q (.bl true) H) := by
  intro pins s σ H x y v u Q I rx ry h
  obtain ⟨rfl, ⟨b, rfl⟩, q⟩ := h
  cases rx; cases ry
  exact wpAny_of_eq (a := Value.bool true) (by first | rfl | (cases b <;> rfl)) ⟨.bl true, H, I, rfl, q⟩
theorem c_isNot : CmpOk X .IsNot dIsNot := by
  refine ⟨_, OpR.or op_notN (OpR.or op_notBl isNB_gen), fun O st σ ρ S H x y da db k Q s ra rb e q => ?_⟩
  unfold dIsNot dIs at e
  simp only [Option.map_eq_some_iff] at e
  obtain ⟨k', e, rfl⟩ := e
  split at e
  · cases e; cases q_non rb; exact .inl ⟨rfl, by rw [rq_non ra]; exact q⟩
  · cases e; cases q_bl ra; cases q_bl rb; exact .inr (.inl ⟨_, _, rfl, rfl, q⟩)
  · cases e; cases q_non ra; cases q_bl rb; exact .inr (.inr ⟨rfl, ⟨_, rfl⟩, q⟩)
  · cases e
def rInT (K : PySem.W.Frag) : R2 := fun x y H Q => ∃ d ds, Dp K H x d ∧ Dp K H y (.tuple ds) ∧ SeqAt.shaped d = true ∧ SeqAt.shaped (.tuple ds) = true ∧ Q (.bl (ds.any fun z => PyData.eqv z d)) H
theorem room_inT {A : Around} {xs : List PyData} {d : PyData} (h : SeqAt.shaped d = true) (hu : A.units + 65 < cLine) : A.units + 1 + min (PyData.depthAll xs) d.depth < cLine := by
  have h1 := SeqAt.depth_of_shaped h
  have h2 : min (PyData.depthAll xs) d.depth ≤ d.depth := Nat.min_le_right _ _
  omega
theorem op_inT (hu : X.A.units + 65 < cLine) : OpR X (compareOp .In) (rInT X.K) := by
  intro pins s σ H x y v u Q I rx ry h
  obtain ⟨d, ds, hd, he, sd, se, q⟩ := h
  obtain ⟨as1, g1⟩ := Dp.reads I d x v hd rx
  obtain ⟨as2, g2⟩ := Dp.reads I (.tuple ds) y u he ry
  exact SeqAt.in_tuple_reads g2 g1 (SeqAt.canLay_of_shaped se) (SeqAt.canLay_of_shaped sd) (room_inT sd hu) ⟨.bl _, H, I, rfl, q⟩
def rNotInT (K : PySem.W.Frag) : R2 := fun x y H Q => ∃ d ds, Dp K H x d ∧ Dp K H y (.tuple ds) ∧ SeqAt.shaped d = true ∧ SeqAt.shaped (.tuple ds) = true ∧ Q (.bl (!ds.any fun z => PyData.eqv z d)) H
theorem op_notInT (hu : X.A.units + 65 < cLine) : OpR X (compareOp .NotIn) (rNotInT X.K) := by
  intro pins s σ H x y v u Q I rx ry h
  obtain ⟨d, ds, hd, he, sd, se, q⟩ := h
  obtain ⟨as1, g1⟩ := Dp.reads I d x v hd rx
  obtain ⟨as2, g2⟩ := Dp.reads I (.tuple ds) y u he ry
  exact SeqAt.notIn_tuple_reads g2 g1 (SeqAt.canLay_of_shaped se) (SeqAt.canLay_of_shaped sd) (room_inT sd hu) ⟨.bl _, H, I, rfl, q⟩
theorem dIn_cases {x y : D} {k : Bool} (h : dIn x y = some k) : ∃ p ps, toP x = some p ∧ SeqAt.shaped p = true ∧ k = (ps.any fun z => PyData.eqv z p) ∧ ((toP y = some (.list ps) ∧ SeqAt.shaped (.list ps) = true) ∨ (toP y = some (.tuple ps) ∧ SeqAt.shaped (.tuple ps) = true)) := by
  unfold dIn at h
  split at h
  · rename_i p ps h1 h2
    split at h
    · rename_i hs; cases h; exact ⟨p, ps, h1, hs.1, rfl, .inl ⟨h2, hs.2⟩⟩
    · cases h
  · rename_i p ps h1 h2
    split at h
    · rename_i hs; cases h; exact ⟨p, ps, h1, hs.1, rfl, .inr ⟨h2, hs.2⟩⟩
    · cases h
  · cases h
theorem c_in (hu : X.A.units + 65 < cLine) : CmpOk X .In dIn := by
  refine ⟨_, OpR.or (op_inD hu) (op_inT hu), fun O st σ ρ S H x y da db k Q s ra rb e q => ?_⟩
  obtain ⟨p, ps, h1, h2, rfl, h3 | h3⟩ := dIn_cases e
  · exact .inl ⟨p, ps, ra.dp h1, rb.dp h3.1, h2, h3.2, q⟩
  · exact .inr ⟨p, ps, ra.dp h1, rb.dp h3.1, h2, h3.2, q⟩
theorem c_notIn (hu : X.A.units + 65 < cLine) : CmpOk X .NotIn dNotIn := by
  refine ⟨_, OpR.or (op_notInD hu) (op_notInT hu), fun O st σ ρ S H x y da db k Q s ra rb e q => ?_⟩
  unfold dNotIn at e
  simp only [Option.map_eq_some_iff] at e
  obtain ⟨k', e, rfl⟩ := e
  obtain ⟨p, ps, h1, h2, rfl, h3 | h3⟩ := dIn_cases e
  · exact .inl ⟨p, ps, ra.dp h1, rb.dp h3.1, h2, h3.2, q⟩
  · exact .inr ⟨p, ps, ra.dp h1, rb.dp h3.1, h2, h3.2, q⟩

/-! ### tests -/
def asB : D → M Bool
  | .bl b => ret b
  | _ => bad
def bB (b : Bool) : M D := ret (.bl b)
/-- an expression whose value is a bool, as a test -/
theorem rt_val {e : Expr} {m : M D} (h : RE X E e m) (he : ∀ whole, isTrue e X.env whole = (do let v ← whole; standAt e.pos; holding [v] (truthy v)) := by intro _; rfl) : RT X E e (bnd m asB) :=
  PTimp (pt_val h he) fun σ H Q q => by
    refine tG_mono (tG_bnd (R1 := RfD X.K X.mg) q) fun x H1 h1 => ?_
    obtain ⟨O, st, ρ, S, a, s, r, g⟩ := h1
    cases a <;> simp only [asB] at g <;> try (exact g.elim)
    cases r
    exact ⟨_, rfl, g _ _ FrE.refl s.state rfl⟩
theorem rt_cmp {op : CmpOp} {f : D → D → Option Bool} (h : CmpOk X op f) (ha : RQ X E a ma) (hb : RQ X E b mb) (hm : behindInMarks op b = false) : RT X E (.Compare a [op] [b] pos) (bn2 ma mb fun x y => lft (f x y)) := by
  obtain ⟨r, ho, hr⟩ := h
  refine PTimp (pt_cmpR ho ha hb hm) fun σ H Q h => tG_mono (tG_bn2 RfQ.stable h) fun x H1 h1 => tG_mono h1 fun y H2 h2 => ?_
  obtain ⟨O, st, ρ, S, da, db, d, s, ra, rb, e, g⟩ := tG2_lft h2
  exact hr O st σ ρ S H2 x y da db d _ s ra rb e ⟨d, rfl, g _ _ FrE.refl s.state rfl⟩
/-- a op b op' c -/
def mChain (ma mb mc : M D) (f g : D → D → Option Bool) : M Bool := bn2 ma mb fun x y => bnd (lft (f x y)) fun k => if k = true then bnd mc fun z => lft (g y z) else ret false
theorem chain_h {op op' : CmpOp} {f g : D → D → Option Bool} {r r' : R2}
    (hr : ∀ O st σ ρ S H x y a b k (Q : VK), Sim X.K X.mg O st σ H ρ S → RfQ X.K X.mg O st σ ρ H x a → RfQ X.K X.mg O st σ ρ H y b → f a b = some k → Q (.bl k) H → r x y H Q)
    (hr' : ∀ O st σ ρ S H x y a b k (Q : VK), Sim X.K X.mg O st σ H ρ S → RfQ X.K X.mg O st σ ρ H x a → RfQ X.K X.mg O st σ ρ H y b → g a b = some k → Q (.bl k) H → r' x y H Q)
    {σ : L2.St} {H : Hp} {Qb : Bool → Hp → Prop} {Q : VK} (hq : ∀ k H, Qb k H → Q (.bl k) H) (h : tG X.K X.mg E RfB (mChain ma mb mc f g) σ H Qb) :
    tChain r r' (tG X.K X.mg E (RfQ X.K X.mg) ma) (tG X.K X.mg E (RfQ X.K X.mg) mb) (tG X.K X.mg E (RfQ X.K X.mg) mc) σ H Q := by
  refine tG_mono (tG_bn2 RfQ.stable h) fun x H1 h1 => tG_mono h1 fun y H2 h2 => ?_
  obtain ⟨O, st, ρ, S, da, db, s, ra, rb, gg⟩ := h2
  dsimp only [bnd] at gg
  cases e : f da db with
  | none => rw [e] at gg; exact gg.elim
  | some k =>
    rw [e] at gg
    refine hr O st σ ρ S H2 x y da db k _ s ra rb e ⟨k, rfl, ?_⟩
    cases k with
    | false => exact hq _ _ (gg _ _ FrE.refl s.state rfl)
    | true =>
      rw [if_pos rfl]
      have hh : tG1 X.K X.mg E (RfQ X.K X.mg) RfB y (fun y => bnd mc fun z => lft (g y z)) σ H2 Qb := ⟨O, st, ρ, S, db, s, rb, gg⟩
      refine tG_mono (tG1_k (R2 := RfQ X.K X.mg) RfQ.stable hh) fun z H3 h3 => ?_
      obtain ⟨O, st, ρ, S, db, dc, d, s, rb, rc, e, g'⟩ := tG2_lft h3
      exact hr' O st σ ρ S H3 y z db dc d _ s rb rc e (hq _ _ (g' _ _ FrE.refl s.state rfl))
theorem rt_chain {op op' : CmpOp} {f g : D → D → Option Bool} (h : CmpOk X op f) (h' : CmpOk X op' g) (ha : RQ X E a ma) (hb : RQ X E b mb) (hc : RQ X E c mc) (h1 : lastMarks [op, op'] [b, c] = false := by first | decide | rfl | with_unfolding_all rfl) :
    RT X E (.Compare a [op, op'] [b, c] pos) (mChain ma mb mc f g) := by
  obtain ⟨r, ho, hr⟩ := h
  obtain ⟨r', ho', hr'⟩ := h'
  exact PTimp (pt_chain ho ho' ha hb hc h1) fun σ H Q h => chain_h (op := op) (op' := op') hr hr' (fun k H q => ⟨k, rfl, q⟩) h
theorem re_chain {op op' : CmpOp} {f g : D → D → Option Bool} (h : CmpOk X op f) (h' : CmpOk X op' g) (ha : RQ X E a ma) (hb : RQ X E b mb) (hc : RQ X E c mc) (h1 : lastMarks [op, op'] [b, c] = false := by first | decide | rfl | with_unfolding_all rfl) :
    RE X E (.Compare a [op, op'] [b, c] pos) (bnd (mChain ma mb mc f g) bB) := by
  obtain ⟨r, ho, hr⟩ := h
  obtain ⟨r', ho', hr'⟩ := h'
  refine PEimp (pe_chain ho ho' ha hb hc h1) fun σ H Q h => ?_
  refine chain_h (op := op) (op' := op') (Qb := fun k H1 => Q (.bl k) H1) hr hr' (fun k H q => q) (tG_mono (tG_bnd (R1 := RfB) h) fun x H1 h1 => ?_)
  obtain ⟨O, st, ρ, S, a, s, rfl, g⟩ := h1
  exact g _ _ FrE.refl s.state (.bl _)
/-! ### and, or, not, if-else -/
def mAndT (m1 m2 : M Bool) : M Bool := bnd m1 fun k => if k = true then m2 else ret false
def mOrT (m1 m2 : M Bool) : M Bool := bnd m1 fun k => if k = true then ret true else m2
def mNotT (m : M Bool) : M Bool := bnd m fun k => ret (!k)
theorem tG_if {α β : Type} {R : Rf α β} {K : PySem.W.Frag} {mg : Str → Option Value} {mc : M Bool} {m1 m2 : M β} {σ : L2.St} {H : Hp} {Q : α → Hp → Prop} (h : tG K mg E R (bnd mc fun k => if k = true then m1 else m2) σ H Q) :
    tG K mg E RfB mc σ H fun k H1 => if k = true then tG K mg E R m1 σ H1 Q else tG K mg E R m2 σ H1 Q := by
  refine tG_mono (tG_bnd (R1 := RfB) h) fun k H1 h1 => ?_
  obtain ⟨O, st, ρ, S, k', s, rfl, g⟩ := h1
  cases k with
  | true => exact ⟨O, st, ρ, S, s, g⟩
  | false => exact ⟨O, st, ρ, S, s, g⟩
theorem tG_ret {α β : Type} {R : Rf α β} {K : PySem.W.Frag} {mg : Str → Option Value} {d : β} {v : α} {σ : L2.St} {H : Hp} {Q : α → Hp → Prop} (r : ∀ O st σ ρ H, R O st σ ρ H v d) (h : tG K mg E R (ret d) σ H Q) : Q v H := by
  obtain ⟨O, st, ρ, S, s, g⟩ := h
  exact g _ _ FrE.refl s.state (r _ _ _ _ _)
section
variable {m1 m2 m3 : M Bool} {rest : List Expr}
theorem PWimp {e : Expr} {t t' : TT} (h : PW X e t) (i : ∀ σ H Q, t' σ H Q → t σ H Q) : PW X e t' := ⟨fun wh pins s σ H Q I w => h.run wh pins s σ H Q I (i σ H Q w)⟩
theorem rw_and1 (ha : RT X E a m1) : RW X E (.BoolOp .And [a] pos) m1 := pw_and1 ha
theorem rw_or1 (ha : RT X E a m1) : RW X E (.BoolOp .Or [a] pos) m1 := pw_or1 ha
theorem rw_and (ha : RT X E a m1) (hb : RW X E (.BoolOp .And (b :: rest) pos) m2) : RW X E (.BoolOp .And (a :: b :: rest) pos) (mAndT m1 m2) := PWimp (pw_and ha hb) fun σ H Q h => by
  refine tG_mono (tG_if h) fun k H1 h1 => ?_
  cases k with
  | true => exact h1
  | false => exact tG_ret (E := E) (v := false) (fun _ _ _ _ _ => rfl) h1
theorem rw_or (ha : RT X E a m1) (hb : RW X E (.BoolOp .Or (b :: rest) pos) m2) : RW X E (.BoolOp .Or (a :: b :: rest) pos) (mOrT m1 m2) := PWimp (pw_or ha hb) fun σ H Q h => by
  refine tG_mono (tG_if h) fun k H1 h1 => ?_
  cases k with
  | true => exact tG_ret (E := E) (v := true) (fun _ _ _ _ _ => rfl) h1
  | false => exact h1
theorem rt_w (h : RW X E a m1) : RT X E a m1 := PW.pt h
theorem rt_not (ha : RT X E a m1) : RT X E (.UnaryOp .Not a pos) (mNotT m1) := PTimp (pt_not ha) fun σ H Q h => by
  refine tG_mono (tG_bnd (R1 := RfB) h) fun k H1 h1 => ?_
  obtain ⟨O, st, ρ, S, k', s, rfl, g⟩ := h1
  exact g _ _ FrE.refl s.state rfl
/-- values: all but the last one True or False -/
def mAnd (m1 m2 : M D) : M D := bnd m1 fun d => match d with
  | .bl k => if k = true then m2 else ret (.bl false)
  | _ => bad
def mOr (m1 m2 : M D) : M D := bnd m1 fun d => match d with
  | .bl k => if k = true then ret (.bl true) else m2
  | _ => bad
def mNot (m : M D) : M D := bnd m fun d => match d with
  | .bl k => ret (.bl (!k))
  | _ => bad
theorem re_one {op : BoolOp} (ha : RE X E a ma) : RE X E (.BoolOp op [a] pos) ma := pe_one ha
theorem re_and (ha : RE X E a ma) (hb : RE X E (.BoolOp .And (b :: rest) pos) mb) : RE X E (.BoolOp .And (a :: b :: rest) pos) (mAnd ma mb) := PEimp (pe_and ha hb) fun σ H Q h => by
  refine tG_mono (tG_bnd (R1 := RfD X.K X.mg) h) fun x H1 h1 => ?_
  obtain ⟨O, st, ρ, S, d, s, r, g⟩ := h1
  cases d <;> try (exact g.elim)
  rename_i k
  cases r
  refine ⟨k, rfl, ?_⟩
  cases k with
  | true => exact ⟨O, st, ρ, S, s, g⟩
  | false => exact g _ _ FrE.refl s.state (.bl _)
theorem re_or (ha : RE X E a ma) (hb : RE X E (.BoolOp .Or (b :: rest) pos) mb) : RE X E (.BoolOp .Or (a :: b :: rest) pos) (mOr ma mb) := PEimp (pe_or ha hb) fun σ H Q h => by
  refine tG_mono (tG_bnd (R1 := RfD X.K X.mg) h) fun x H1 h1 => ?_
  obtain ⟨O, st, ρ, S, d, s, r, g⟩ := h1
  cases d <;> try (exact g.elim)
  rename_i k
  cases r
  refine ⟨k, rfl, ?_⟩
  cases k with
  | false => exact ⟨O, st, ρ, S, s, g⟩
  | true => exact g _ _ FrE.refl s.state (.bl _)
theorem re_not (ha : RE X E a ma) : RE X E (.UnaryOp .Not a pos) (mNot ma) := PEimp (pe_not ha) fun σ H Q h => by
  refine tG_mono (tG_bnd (R1 := RfD X.K X.mg) h) fun x H1 h1 => ?_
  obtain ⟨O, st, ρ, S, d, s, r, g⟩ := h1
  cases d <;> try (exact g.elim)
  cases r
  exact ⟨_, rfl, g _ _ FrE.refl s.state (.bl _)⟩
def mIf {α : Type} (mc : M Bool) (m1 m2 : M α) : M α := bnd mc fun k => if k = true then m1 else m2
theorem re_if (hc : RT X E c m1) (ha : RE X E a ma) (hb : RE X E b mb) : RE X E (.IfExp c a b pos) (mIf m1 ma mb) := PEimp (pe_ifExp hc ha hb) fun σ H Q h => tG_if h
theorem rq_if (hc : RT X E c m1) (ha : RQ X E a ma) (hb : RQ X E b mb) : RQ X E (.IfExp c a b pos) (mIf m1 ma mb) := PEimp (pe_ifExp hc ha hb) fun σ H Q h => tG_if h
end
end
end Pf
end

section
set_option Elab.async false
set_option linter.all false
set_option maxRecDepth 100000
namespace Pf
open PySem PySem.Spec L2
variable [TabsC]

/-! ### argument lists -/
def mCons (m : M D) (ms : M (List D)) : M (List D) := bnd m fun d => bnd ms fun ds => ret (d :: ds)
section
variable {X : Cx} {E : XK} {e a b : Expr} {es : List Expr} {m ma mb : M D} {ms : M (List D)} {pos p1 p2 : Pos}
theorem ra_nil : RA X E [] (ret []) := PAimp pa_nil fun σ H Q h => tG_ret (E := E) (v := []) (fun _ _ _ _ _ => .nil) h
theorem ra_cons (ha : RE X E e m) (hr : RA X E es ms) (hs : starEach (e :: es) X.env = (false, eval e X.env) :: starEach es X.env := by rfl) : RA X E (e :: es) (mCons m ms) := PAimp (pa_cons ha hr hs) fun σ H Q h => by
  refine tG_mono (tG_bnd (R1 := RfD X.K X.mg) h) fun x H1 h1 => ?_
  refine tG_mono (tG1_k (R2 := RfL X.K X.mg) RfD.stable h1) fun xs H2 h2 => ?_
  obtain ⟨O, st, ρ, S, d, ds, s, r1, r2, g⟩ := h2
  exact g _ _ FrE.refl s.state (.cons r1 r2)
def mTup (ms : M (List D)) : M D := bnd ms fun ds => if ds.length ≤ 1000 then ret (.tup ds) else bad
def mLst (ms : M (List D)) : M D := bnd ms fun ds => if ds.length ≤ 1000 then ret (.lst ds) else bad
theorem small {n : Nat} (h : n ≤ 1000) : n ≤ sizeLine := Nat.le_of_lt (small1000 h)
theorem re_tup {k} (h : RA X E es ms) : RE X E (.Tuple es k pos) (mTup ms) := PEimp (pe_tupF h) fun σ H Q h => by
  refine tG_mono (tG_bnd (R1 := RfL X.K X.mg) h) fun xs H1 h1 => ?_
  obtain ⟨O, st, ρ, S, ds, s, r, g⟩ := h1
  dsimp only at g
  split at g
  · rename_i hz
    refine ⟨by rw [r.length]; exact small hz, fun p ob hp ho => g _ _ (FrE.laid hp) (s.state.laid hp) (s.mkT r hp ho)⟩
  · exact g.elim
theorem re_lst (h : RA X E es ms) : RE X E (.List es pos) (mLst ms) := PEimp (pe_lst h) fun σ H Q h => by
  refine tG_mono (tG_bnd (R1 := RfL X.K X.mg) h) fun xs H1 h1 => ?_
  obtain ⟨O, st, ρ, S, ds, s, r, g⟩ := h1
  dsimp only at g
  split at g
  · rename_i hz
    refine ⟨by rw [r.length]; exact small hz, fun p hp => g _ _ (FrE.laid hp) (s.state.laid hp) (s.mkL r hp)⟩
  · exact g.elim
/-- {} -/
theorem re_dic0 : RE X E (.Dict [] [] pos) (ret (.dic [])) := PEimp pe_dnewK fun σ H Q ⟨O, st, ρ, S, s, g⟩ => fun d hd => g _ _ (FrE.laid hd) (s.state.laid hd) (.dic0 (s.new hd) upd_same)

/-! ### an item, a slice -/
theorem reps_at {K : PySem.W.Frag} {mg : Str → Option Value} {st : StA} {H : Hp} {A : Addr → Prop} {vs : List V} {ds : List D} {i : Int} {d : D} (r : Reps K mg st H A vs ds) (h : atI ds i = some d) : ∃ v, atI vs i = some v ∧ Rep K mg st H A v d := by
  unfold atI at h ⊢
  rw [r.length]
  cases e : ixN ds.length i with
  | none => rw [e] at h; cases h
  | some j =>
    rw [e] at h
    obtain ⟨v, h1, h2⟩ := r.get j h
    exact ⟨v, h1, h2⟩
def dIx : D → D → Option D
  | .lst xs, .int i => atI xs i
  | .tup xs, .int i => atI xs i
  | .str z, .int i => if z.length ≤ sizeLine then (atI z.cps.toList i).map fun c => .str ⟨#[c]⟩ else none
  | _, _ => none
theorem tG_qop {r : R2} {f : D → D → Option D} (hr : ∀ O st σ ρ S H x y a b d (Q : VK), Sim X.K X.mg O st σ H ρ S → RfQ X.K X.mg O st σ ρ H x a → RfQ X.K X.mg O st σ ρ H y b → f a b = some d →
      (∀ v H', FrE st H H' → StOk st H' S → Rep X.K X.mg st H' (AV O st σ ρ) v d → Q v H') → r x y H Q) {σ : L2.St} {H : Hp} {Q : VK} (h : tG X.K X.mg E (RfD X.K X.mg) (bn2 ma mb fun x y => lft (f x y)) σ H Q) :
    tOp r (tG X.K X.mg E (RfQ X.K X.mg) ma) (tG X.K X.mg E (RfQ X.K X.mg) mb) σ H Q :=
  tG_mono (tG_bn2 RfQ.stable h) fun x H1 h1 => tG_mono h1 fun y H2 h2 => by
    obtain ⟨O, st, ρ, S, da, db, d, s, ra, rb, e, g⟩ := tG2_lft h2
    exact hr O st σ ρ S H2 x y da db d Q s ra rb e g
theorem re_ix (ha : RQ X E a ma) (hb : RQ X E b mb) (hs : PlainIx b) : RE X E (.Subscript a b pos) (bn2 ma mb fun x y => lft (dIx x y)) :=
  PEimp (pe_ix ix_seq ha hb hs) fun σ H Q h => tG_qop (E := E) (fun O st σ ρ S H x y da db d Q s ra rb e g => by
    unfold dIx at e
    split at e
    · cases q_int rb
      obtain ⟨p, vs, rfl, h1, _, r1⟩ := q_lst ra
      obtain ⟨v, h2, r2⟩ := reps_at r1 e
      exact .inl ⟨p, vs, _, v, rfl, rfl, SqL.of h1, h2, g _ _ FrE.refl s.state r2⟩
    · cases q_int rb
      obtain ⟨p, vs, rfl, h1, r1⟩ := q_tup ra
      obtain ⟨v, h2, r2⟩ := reps_at r1 e
      exact .inr (.inl ⟨p, vs, _, v, rfl, rfl, h1, h2, g _ _ FrE.refl s.state r2⟩)
    · split at e
      · rename_i hz
        simp only [Option.map_eq_some_iff] at e
        obtain ⟨c, h2, rfl⟩ := e
        cases q_int rb; cases q_str ra
        exact .inr (.inr ⟨_, _, c, rfl, rfl, hz, h2, g _ _ FrE.refl s.state (.str _)⟩)
      · cases e
    · cases e) h
def cutD (xs : List D) (lo hi : Option Int) : List D := (xs.drop (HT.sIx xs.length 0 lo)).take (HT.sIx xs.length xs.length hi - HT.sIx xs.length 0 lo)
theorem reps_cut {K : PySem.W.Frag} {mg : Str → Option Value} {st : StA} {H : Hp} {A : Addr → Prop} {vs : List V} {ds : List D} (lo hi : Option Int) (r : Reps K mg st H A vs ds) : Reps K mg st H A (cutV vs lo hi) (cutD ds lo hi) := by
  unfold cutV cutD
  rw [r.length]
  exact (r.drop _).take _
def dSl : D → Option Int → Option Int → Option D
  | .lst xs, lo, hi => some (.lst (cutD xs lo hi))
  | .tup xs, lo, hi => some (.tup (cutD xs lo hi))
  | _, _, _ => none
def RfO : Rf (Option Int) (Option Int) := fun _ _ _ _ _ b c => b = c
abbrev RO (X : Cx) (E : XK) (e : Option Expr) (m : M (Option Int)) : Prop := PO X e (tG X.K X.mg E RfO m)
def mPart (m : M D) : M (Option Int) := bnd m fun d => match d with
  | .int i => ret (some i)
  | _ => bad
theorem ro_none : RO X E none (ret none) := ⟨fun pins s σ H Q I h => po_none.run pins s σ H Q I (tG_ret (E := E) (v := none) (fun _ _ _ _ _ => rfl) h)⟩
theorem ro_some (h : RE X E e m) : RO X E (some e) (mPart m) := ⟨fun pins s σ H Q I hq => (po_some h).run pins s σ H Q I (by
  refine tG_mono (tG_bnd (R1 := RfD X.K X.mg) hq) fun x H1 h1 => ?_
  obtain ⟨O, st, ρ, S, d, s, r, g⟩ := h1
  cases d <;> try (exact g.elim)
  cases r
  exact ⟨_, rfl, g _ _ FrE.refl s.state rfl⟩)⟩
def mSl (m : M D) (ml mh : M (Option Int)) : M D := bnd m fun x => bnd ml fun l => bnd mh fun h => lft (dSl x l h)
theorem re_sl {lo hi : Option Expr} {ml mh : M (Option Int)} (he : RQ X E e m) (hl : RO X E lo ml) (hh : RO X E hi mh) : RE X E (.Subscript e (.Slice lo hi none p2) pos) (mSl m ml mh) :=
  PEimp (pe_slice (SlR.or sl_list sl_tupF) he hl hh) fun σ H Q h => by
    refine tG_mono (tG_bnd (R1 := RfQ X.K X.mg) h) fun x H1 h1 => ?_
    refine tG_mono (tG1_k (R2 := RfO) RfQ.stable h1) fun l H2 h2 => ?_
    refine tG_mono (tG2_k (R3 := RfO) RfQ.stable (fun _ _ _ _ _ _ _ _ _ z => z) h2) fun u H3 h3 => ?_
    obtain ⟨O, st, ρ, S, d, l', u', s, r, rfl, rfl, g⟩ := h3
    dsimp only at g
    cases d with
    | tup xs =>
      obtain ⟨p, vs, rfl, h1, r1⟩ := q_tup r
      refine .inr ⟨p, vs, rfl, h1, fun hw => ?_, fun hw q ob hq ho => g _ _ (FrE.laid hq) (s.state.laid hq) (s.mkT (reps_cut _ _ r1) hq ho)⟩
      refine g _ _ FrE.refl s.state ?_
      have e : cutD xs l u = xs := by
        unfold cutD
        rw [← r1.length, hw.1, hw.2, List.drop_zero, Nat.sub_zero, r1.length, List.take_length]
      rw [e]
      rcases r with r | ⟨_, _, _, _, e, _⟩
      · exact r
      · cases e
    | lst xs =>
      obtain ⟨p, vs, rfl, h1, _, r1⟩ := q_lst r
      exact .inl ⟨p, vs, rfl, SqL.of h1, fun q hq => g _ _ (FrE.laid hq) (s.state.laid hq) (s.mkL (reps_cut _ _ r1) hq)⟩
    | _ => exact g.elim

/-! ### built-ins -/
/-- what a call of one argument gives -/
def C1 (X : Cx) (r : List V → Hp → VK → Prop) (f : D → Option D) : Prop :=
  ∀ O st σ ρ S H x a d (Q : VK), Sim X.K X.mg O st σ H ρ S → RfQ X.K X.mg O st σ ρ H x a → f a = some d → (∀ v H', FrE st H H' → StOk st H' S → Rep X.K X.mg st H' (AV O st σ ρ) v d → Q v H') → r [x] H Q
def mB1 (m : M D) (f : D → Option D) : M D := bnd m fun x => lft (f x)
theorem c1_h {r : List V → Hp → VK → Prop} {f : D → Option D} (hr : C1 X r f) {σ : L2.St} {H : Hp} {Q : VK} (h : tG X.K X.mg E (RfD X.K X.mg) (mB1 m f) σ H Q) : tG X.K X.mg E (RfQ X.K X.mg) m σ H fun x H1 => r [x] H1 Q := by
  refine tG_mono (tG_bnd (R1 := RfQ X.K X.mg) h) fun x H1 h1 => ?_
  obtain ⟨O, st, ρ, S, a, d, s, ra, e, g⟩ := tG1_lft h1
  exact hr O st σ ρ S H1 x a d Q s ra e g
theorem re_b1 {x : Str} {id : String} {r : List V → Hp → VK → Prop} {f : D → Option D} (hr : C1 X r f) (hc : CallR X (.builtin id) r) (hg : Gl X x) (hm : X.mg x = none) (hv : bootBuiltins x = some (.builtin id)) (ha : RQ X E a m) (hn : x ≠ "__name__" := by decide) (hdb : (x == ("__debug__" : Str)) = false := by decide)
    (hs : starEach [a] X.env = (false, eval a X.env) :: starEach [] X.env := by rfl) : RE X E (.Call (.Name x p1) [a] [] pos) (mB1 m f) := PEimp (pe_callB hc hg hm hv (pa_cons ha pa_nil hs) hn hdb (he := hs)) fun σ H Q h => c1_h hr h
theorem re_ty1 {x : Str} {T : String} {r : List V → Hp → VK → Prop} {f : D → Option D} (hr : C1 X r f) (hc : CallR X (.type T) r) (hg : Gl X x) (hm : X.mg x = none) (hv : bootBuiltins x = some (.type T)) (ha : RQ X E a m) (hn : x ≠ "__name__" := by decide) (hdb : (x == ("__debug__" : Str)) = false := by decide)
    (hs : starEach [a] X.env = (false, eval a X.env) :: starEach [] X.env := by rfl) : RE X E (.Call (.Name x p1) [a] [] pos) (mB1 m f) := PEimp (pe_callTy hc hg hm hv (pa_cons ha pa_nil hs) hn hdb (he := hs)) fun σ H Q h => c1_h hr h
theorem r_frl {K : PySem.W.Frag} {mg : Str → Option Value} {st : StA} {H : Hp} {A : Addr → Prop} {v : V} {ds : List D} (r : Rep K mg st H A v (.frl ds)) : ∃ a vs, v = .ref a ∧ SqL K H a vs ∧ Reps K mg st H A vs ds ∧ ∀ A' H', Frm A A' H H' → SqL K H' a vs ∧ Reps K mg st H' A' vs ds := by
  cases r with
  | frl n h r => exact ⟨_, _, rfl, .inl h, r, fun A' H' f => ⟨.inl (f.rd h n), r.frm f⟩⟩
  | frlK h r => exact ⟨_, _, rfl, h.elim (fun z => z.elim (fun z => by cases z) fun ⟨u, z⟩ => by cases z) .inr, r, fun A' H' f => ⟨h.elim (fun z => z.elim (fun z => by cases z) fun ⟨u, z⟩ => by cases z) .inr, r.frm f⟩⟩
def dLen : D → Option D
  | .frl xs => some (.int xs.length)
  | .lst xs => some (.int xs.length)
  | .tup xs => some (.int xs.length)
  | .str z => if z.length ≤ sizeLine then some (.int z.length) else none
  | _ => none
theorem c1_len : C1 X (fun xs H Q => (∃ p ys, xs = [.ref p] ∧ (SqL X.K H p ys ∨ SqT X.K H p ys) ∧ Q (.int ys.length) H) ∨ (∃ z, xs = [.str z] ∧ z.length ≤ sizeLine ∧ Q (.int z.length) H)) dLen := fun O st σ ρ S H x a d Q s ra e g => by
  unfold dLen at e
  split at e
  · cases e
    rcases ra with r | ⟨_, _, _, _, e, _⟩
    · obtain ⟨p, vs, rfl, h1, r1, _⟩ := r_frl r
      exact .inl ⟨p, vs, rfl, .inl h1, by rw [r1.length]; exact g _ _ FrE.refl s.state (.int _)⟩
    · cases e
  · cases e
    obtain ⟨p, vs, rfl, h1, _, r1⟩ := q_lst ra
    exact .inl ⟨p, vs, rfl, .inl (SqL.of h1), by rw [r1.length]; exact g _ _ FrE.refl s.state (.int _)⟩
  · cases e
    obtain ⟨p, vs, rfl, h1, r1⟩ := q_tup ra
    exact .inl ⟨p, vs, rfl, .inr h1, by rw [r1.length]; exact g _ _ FrE.refl s.state (.int _)⟩
  · split at e
    · rename_i hz
      cases e; cases q_str ra
      exact .inr ⟨_, rfl, hz, g _ _ FrE.refl s.state (.int _)⟩
    · cases e
  · cases e
theorem re_len (hg : Gl X "len") (hm : X.mg "len" = none) (ha : RQ X E a m) (hs : starEach [a] X.env = (false, eval a X.env) :: starEach [] X.env := by rfl) : RE X E (.Call (.Name "len" p1) [a] [] pos) (mB1 m dLen) :=
  re_b1 c1_len (CallR.or call_len_seq call_len_str) hg hm PySem.boot_len ha (hs := hs)
def dTuple : D → Option D
  | .lst xs => some (.tup xs)
  | .tup xs => some (.tup xs)
  | _ => none
theorem re_tuple (hg : Gl X "tuple") (hm : X.mg "tuple" = none) (ha : RQ X E a m) (hs : starEach [a] X.env = (false, eval a X.env) :: starEach [] X.env := by rfl) : RE X E (.Call (.Name "tuple" p1) [a] [] pos) (mB1 m dTuple) :=
  re_ty1 (fun O st σ ρ S H x a d Q s ra e g => by
    unfold dTuple at e
    split at e
    · cases e
      obtain ⟨p, vs, rfl, h1, _, r1⟩ := q_lst ra
      exact ⟨p, vs, rfl, .inl ⟨SqL.of h1, fun l ob hl ho => g _ _ (FrE.laid hl) (s.state.laid hl) (s.mkT r1 hl ho)⟩⟩
    · cases e
      obtain ⟨p, vs, rfl, h1, r1⟩ := q_tup ra
      rcases ra with r | ⟨_, _, _, _, e, _⟩
      · exact ⟨p, vs, rfl, .inr ⟨h1, g _ _ FrE.refl s.state r⟩⟩
      · cases e
    · cases e) call_tupleF hg hm (by decide +kernel) ha (hs := hs)
def dList : D → Option D
  | .lst xs => some (.lst xs)
  | .tup xs => some (.lst xs)
  | _ => none
theorem re_list (hg : Gl X "list") (hm : X.mg "list" = none) (ha : RQ X E a m) (hs : starEach [a] X.env = (false, eval a X.env) :: starEach [] X.env := by rfl) : RE X E (.Call (.Name "list" p1) [a] [] pos) (mB1 m dList) :=
  re_ty1 (fun O st σ ρ S H x a d Q s ra e g => by
    unfold dList at e
    split at e
    · cases e
      obtain ⟨p, vs, rfl, h1, _, r1⟩ := q_lst ra
      exact ⟨p, vs, rfl, .inl (SqL.of h1), fun l hl => g _ _ (FrE.laid hl) (s.state.laid hl) (s.mkL r1 hl)⟩
    · cases e
      obtain ⟨p, vs, rfl, h1, r1⟩ := q_tup ra
      exact ⟨p, vs, rfl, .inr h1, fun l hl => g _ _ (FrE.laid hl) (s.state.laid hl) (s.mkL r1 hl)⟩
    · cases e) call_list_of hg hm (by decide +kernel) ha (hs := hs)
def dInt : D → Option D
  | .int i => some (.int i)
  | .bl k => some (.int (if k then 1 else 0))
  | _ => none
theorem re_int1 (hg : Gl X "int") (hm : X.mg "int" = none) (ha : RQ X E a m) (hs : starEach [a] X.env = (false, eval a X.env) :: starEach [] X.env := by rfl) : RE X E (.Call (.Name "int" p1) [a] [] pos) (mB1 m dInt) :=
  re_ty1 (fun O st σ ρ S H x a d Q s ra e g => by
    unfold dInt at e
    split at e
    · cases e; cases q_int ra; exact .inl ⟨_, rfl, g _ _ FrE.refl s.state (.int _)⟩
    · cases e; cases q_bl ra; exact .inr ⟨_, rfl, g _ _ FrE.refl s.state (.int _)⟩
    · cases e) call_int1 hg hm (by decide +kernel) ha (hs := hs)
def dAbs : D → Option D
  | .int i => some (.int (if i < 0 then -i else i))
  | _ => none
theorem re_abs (hg : Gl X "abs") (hm : X.mg "abs" = none) (ha : RQ X E a m) (hs : starEach [a] X.env = (false, eval a X.env) :: starEach [] X.env := by rfl) : RE X E (.Call (.Name "abs" p1) [a] [] pos) (mB1 m dAbs) :=
  re_b1 (fun O st σ ρ S H x a d Q s ra e g => by
    unfold dAbs at e
    split at e
    · cases e; cases q_int ra; exact ⟨_, rfl, g _ _ FrE.refl s.state (.int _)⟩
    · cases e) call_abs hg hm (by decide +kernel) ha (hs := hs)
def bools : List D → Option (List Bool)
  | [] => some []
  | .bl i :: xs => (bools xs).map (i :: ·)
  | _ :: _ => none
theorem bools_vs {K : PySem.W.Frag} {mg : Str → Option Value} {st : StA} {H : Hp} {A : Addr → Prop} : ∀ {vs : List V} {ds : List D} {ns : List Bool}, Reps K mg st H A vs ds → bools ds = some ns → vs = ns.map V.bl
  | _, _, _, .nil, e => by simp [bools] at e; subst e; rfl
  | _, _, _, .cons (d := d) r t, e => by
    cases d <;> simp only [bools] at e <;> try (cases e)
    simp only [Option.map_eq_some_iff] at e
    obtain ⟨ms, e1, rfl⟩ := e
    cases r
    rw [bools_vs t e1]
    rfl
def dAll : D → Option D
  | .lst xs => (bools xs).map fun bs => .bl (bs.all id)
  | _ => none
def dAny : D → Option D
  | .lst xs => (bools xs).map fun bs => .bl (bs.any id)
  | _ => none
theorem re_all (hc : X.calm = true) (hg : Gl X "all") (hm : X.mg "all" = none) (ha : RQ X E a m) (hs : starEach [a] X.env = (false, eval a X.env) :: starEach [] X.env := by rfl) : RE X E (.Call (.Name "all" p1) [a] [] pos) (mB1 m dAll) :=
  re_b1 (fun O st σ ρ S H x a d Q s ra e g => by
    unfold dAll at e
    split at e
    · simp only [Option.map_eq_some_iff] at e
      obtain ⟨bs, e, rfl⟩ := e
      obtain ⟨p, vs, rfl, h1, _, r1⟩ := q_lst ra
      rw [bools_vs r1 e] at h1
      exact ⟨p, bs, rfl, SqL.of h1, g _ _ FrE.refl s.state (.bl _)⟩
    · cases e) (cr_all hc) hg hm (by decide +kernel) ha (hs := hs)
theorem re_any (hc : X.calm = true) (hg : Gl X "any") (hm : X.mg "any" = none) (ha : RQ X E a m) (hs : starEach [a] X.env = (false, eval a X.env) :: starEach [] X.env := by rfl) : RE X E (.Call (.Name "any" p1) [a] [] pos) (mB1 m dAny) :=
  re_b1 (fun O st σ ρ S H x a d Q s ra e g => by
    unfold dAny at e
    split at e
    · simp only [Option.map_eq_some_iff] at e
      obtain ⟨bs, e, rfl⟩ := e
      obtain ⟨p, vs, rfl, h1, _, r1⟩ := q_lst ra
      rw [bools_vs r1 e] at h1
      exact ⟨p, bs, rfl, SqL.of h1, g _ _ FrE.refl s.state (.bl _)⟩
    · cases e) (cr_any hc) hg hm (by decide +kernel) ha (hs := hs)
/-- two arguments -/
def C2 (X : Cx) (r : List V → Hp → VK → Prop) (f : D → D → Option D) : Prop :=
  ∀ O st σ ρ S H x y a b d (Q : VK), Sim X.K X.mg O st σ H ρ S → RfQ X.K X.mg O st σ ρ H x a → RfQ X.K X.mg O st σ ρ H y b → f a b = some d → (∀ v H', FrE st H H' → StOk st H' S → Rep X.K X.mg st H' (AV O st σ ρ) v d → Q v H') → r [x, y] H Q
theorem c2_h {r : List V → Hp → VK → Prop} {f : D → D → Option D} (hr : C2 X r f) {σ : L2.St} {H : Hp} {Q : VK} (h : tG X.K X.mg E (RfD X.K X.mg) (bn2 ma mb fun x y => lft (f x y)) σ H Q) :
    tG X.K X.mg E (RfQ X.K X.mg) ma σ H fun x H1 => tG X.K X.mg E (RfQ X.K X.mg) mb σ H1 fun y H2 => r [x, y] H2 Q :=
  tG_mono (tG_bn2 RfQ.stable h) fun x H1 h1 => tG_mono h1 fun y H2 h2 => by
    obtain ⟨O, st, ρ, S, da, db, d, s, ra, rb, e, g⟩ := tG2_lft h2
    exact hr O st σ ρ S H2 x y da db d Q s ra rb e g
theorem re_b2 {x : Str} {id : String} {r : List V → Hp → VK → Prop} {f : D → D → Option D} (hr : C2 X r f) (hc : CallR X (.builtin id) r) (hg : Gl X x) (hm : X.mg x = none) (hv : bootBuiltins x = some (.builtin id)) (ha : RQ X E a ma) (hb : RQ X E b mb) (hn : x ≠ "__name__" := by decide) (hdb : (x == ("__debug__" : Str)) = false := by decide)
    (hs : starEach [a, b] X.env = (false, eval a X.env) :: starEach [b] X.env := by rfl) (hs2 : starEach [b] X.env = (false, eval b X.env) :: starEach [] X.env := by rfl) (hpl : (backTo pos (starEach [b] X.env)).any (·.1) = false := by rfl) : RE X E (.Call (.Name x p1) [a, b] [] pos) (bn2 ma mb fun x y => lft (f x y)) :=
  PEimp (pe_callB hc hg hm hv (pa_cons ha (pa_cons hb pa_nil hs2) hs) hn hdb (he := hs) (hpl := hpl)) fun σ H Q h => c2_h hr h
def dMin : D → D → Option D
  | .int i, .int j => some (.int (if j < i then j else i))
  | _, _ => none
def dMax : D → D → Option D
  | .int i, .int j => some (.int (if j > i then j else i))
  | _, _ => none
theorem re_min2 (hc : X.calm = true) (hg : Gl X "min") (hm : X.mg "min" = none) (ha : RQ X E a ma) (hb : RQ X E b mb) (hs : starEach [a, b] X.env = (false, eval a X.env) :: starEach [b] X.env := by rfl) (hs2 : starEach [b] X.env = (false, eval b X.env) :: starEach [] X.env := by rfl) (hpl : (backTo pos (starEach [b] X.env)).any (·.1) = false := by rfl) :
    RE X E (.Call (.Name "min" p1) [a, b] [] pos) (bn2 ma mb fun x y => lft (dMin x y)) :=
  re_b2 (fun O st σ ρ S H x y a b d Q s ra rb e g => by
    unfold dMin at e
    split at e
    · cases e; cases q_int ra; cases q_int rb; exact ⟨_, _, rfl, g _ _ FrE.refl s.state (.int _)⟩
    · cases e) (call_min2 hc) hg hm (by decide +kernel) ha hb (hs := hs) (hs2 := hs2) (hpl := hpl)
theorem re_max2 (hc : X.calm = true) (hg : Gl X "max") (hm : X.mg "max" = none) (ha : RQ X E a ma) (hb : RQ X E b mb) (hs : starEach [a, b] X.env = (false, eval a X.env) :: starEach [b] X.env := by rfl) (hs2 : starEach [b] X.env = (false, eval b X.env) :: starEach [] X.env := by rfl) (hpl : (backTo pos (starEach [b] X.env)).any (·.1) = false := by rfl) :
    RE X E (.Call (.Name "max" p1) [a, b] [] pos) (bn2 ma mb fun x y => lft (dMax x y)) :=
  re_b2 (fun O st σ ρ S H x y a b d Q s ra rb e g => by
    unfold dMax at e
    split at e
    · cases e; cases q_int ra; cases q_int rb; exact ⟨_, _, rfl, g _ _ FrE.refl s.state (.int _)⟩
    · cases e) (call_max2 hc) hg hm (by decide +kernel) ha hb (hs := hs) (hs2 := hs2) (hpl := hpl)
end
end Pf
end

section
set_option Elab.async false
set_option linter.all false
set_option maxRecDepth 100000
namespace Pf
open PySem PySem.Spec L2
variable [TabsC]

/-! ### statements -/
structure FrS (st : StA) (σ : L2.St) (ρ : En) (H : Hp) (σ' : L2.St) (ρ' : En) (H' : Hp) : Prop where
  keep : ∀ a o, H a = some o → ¬ stA st a → ¬ ownA σ ρ a → H' a = some o
  new : ∀ a, ownA σ' ρ' a → ownA σ ρ a ∨ H a = none
def FrR (st : StA) (σ : L2.St) (ρ : En) (H H' : Hp) : Prop := ∀ a o, H a = some o → ¬ stA st a → ¬ ownA σ ρ a → H' a = some o
section
variable {K : PySem.W.Frag} {mg : Str → Option Value} {O : Addr → Prop} {st : StA} {σ σ1 σ2 : L2.St} {ρ ρ1 ρ2 : En} {S S1 : DS} {H H1 H2 : Hp}
theorem FrS.refl : FrS st σ ρ H σ ρ H := ⟨fun _ _ h _ _ => h, fun _ h => .inl h⟩
theorem FrS.frm (f : FrS st σ ρ H σ1 ρ1 H1) : Frm (AV O st σ ρ) (AV O st σ1 ρ1) H H1 :=
  ⟨fun a o h n => f.keep a o h (fun z => n (.inr (.inl z))) (fun z => n (.inr (.inr z))), fun a q => by
    rcases q with q | q | q
    · exact .inl (.inl q)
    · exact .inl (.inr (.inl q))
    · rcases f.new a q with z | z
      · exact .inl (.inr (.inr z))
      · exact .inr z⟩
theorem FrS.trans (f : FrS st σ ρ H σ1 ρ1 H1) (g : FrS st σ1 ρ1 H1 σ2 ρ2 H2) (hs : ∀ a, stA st a → H1 a ≠ none) : FrS st σ ρ H σ2 ρ2 H2 := by
  refine ⟨fun a o h n m => g.keep a o (f.keep a o h n m) n fun z => ?_, fun a q => ?_⟩
  · rcases f.new a z with y | y
    · exact m y
    · rw [h] at y; cases y
  · rcases g.new a q with z | z
    · exact f.new a z
    · by_cases ho : ownA σ ρ a
      · exact .inl ho
      · refine .inr ?_
        cases e : H a with
        | none => rfl
        | some o =>
          by_cases hst : stA st a
          · exact absurd z (hs a hst)
          · rw [f.keep a o e hst ho] at z; cases z
theorem FrE.fs (f : FrE st H H1) : FrS st σ ρ H σ ρ H1 := ⟨fun a o h n _ => f a o h n, fun _ h => .inl h⟩
theorem FrS.fr (f : FrS st σ ρ H σ1 ρ1 H1) (g : FrR st σ1 ρ1 H1 H2) : FrR st σ ρ H H2 := fun a o h n m => g a o (f.keep a o h n m) n fun z => by
  rcases f.new a z with y | y
  · exact m y
  · rw [h] at y; cases y
end
def GoodS (K : PySem.W.Frag) (mg : Str → Option Value) (E : XK) (O : Addr → Prop) (st : StA) (σ : L2.St) (ρ : En) (H : Hp) (r : RS) (D : Ends) : Prop := match r with
  | .nx ρ' S' => ∀ σ' H', Sim K mg O st σ' H' ρ' S' → FrS st σ ρ H σ' ρ' H' → D.nx σ' H'
  | .bk ρ' S' => ∀ σ' H', Sim K mg O st σ' H' ρ' S' → FrS st σ ρ H σ' ρ' H' → D.bk σ' H'
  | .ct ρ' S' => ∀ σ' H', Sim K mg O st σ' H' ρ' S' → FrS st σ ρ H σ' ρ' H' → D.ct σ' H'
  | .rt d S' => ∀ v H', FrR st σ ρ H H' → StOk st H' S' → Rep K mg st H' (AV0 O st) v d → D.rt v H'
  | .exc x S' => ∀ cls dx H', FrR st σ ρ H H' → StOk st H' S' → XR K mg st H' (AV0 O st) cls dx x → E cls dx H'
  | .bad => False
section
variable {K : PySem.W.Frag} {mg : Str → Option Value} {E : XK} {O : Addr → Prop} {st : StA} {σ σ1 : L2.St} {ρ ρ1 : En} {S S1 : DS} {H H1 : Hp} {D : Ends} {r : RS}
theorem GoodS.from (g : GoodS K mg E O st σ ρ H r D) (f : FrS st σ ρ H σ1 ρ1 H1) (hs : ∀ a, stA st a → H1 a ≠ none) : GoodS K mg E O st σ1 ρ1 H1 r D := by
  cases r with
  | nx ρ' S' => exact fun σ' H' s' f' => g σ' H' s' (f.trans f' hs)
  | bk ρ' S' => exact fun σ' H' s' f' => g σ' H' s' (f.trans f' hs)
  | ct ρ' S' => exact fun σ' H' s' f' => g σ' H' s' (f.trans f' hs)
  | rt d S' => exact fun v H' f' => g v H' (f.fr f')
  | exc x S' => exact fun c dx H' f' => g c dx H' (f.fr f')
  | bad => exact g
end
section
variable (K : PySem.W.Frag) (mg : Str → Option Value) (E : XK)
def tS (m : MS) : TS := fun D σ H => ∃ O st ρ S, Sim K mg O st σ H ρ S ∧ GoodS K mg E O st σ ρ H (m ρ S) D
def tS1 {γ δ : Type} (R1 : Rf γ δ) (x : γ) (k : δ → MS) : TS := fun D σ H => ∃ O st ρ S a, Sim K mg O st σ H ρ S ∧ R1 O st σ ρ H x a ∧ GoodS K mg E O st σ ρ H (k a ρ S) D
end
/-- an expression, then a statement's rest -/
def sE {α : Type} (m : M α) (k : α → MS) : MS := fun ρ S => match m ρ S with
  | .ok a S' => k a ρ S'
  | .exc x S' => .exc x S'
  | .bad => .bad
section
variable {K : PySem.W.Frag} {mg : Str → Option Value} {E : XK}
theorem tS_sE {γ δ : Type} {R1 : Rf γ δ} {m : M δ} {k : δ → MS} {D : Ends} {σ : L2.St} {H : Hp} (h : tS K mg E (sE m k) D σ H) : tG K mg E R1 m σ H fun x H1 => tS1 K mg E R1 x k D σ H1 := by
  obtain ⟨O, st, ρ, S, s, g⟩ := h
  refine ⟨O, st, ρ, S, s, ?_⟩
  unfold sE at g
  cases e : m ρ S with
  | ok d S' => rw [e] at g; exact fun v H' f q r => ⟨O, st, ρ, S', d, s.ext f q, r, g.from f.fs q.sin⟩
  | exc x S' => rw [e] at g; exact fun c dx H' f q r => g c dx H' (fun a o h n _ => f a o h n) q r
  | bad => rw [e] at g; exact g
end
abbrev RS1 (X : Cx) (E : XK) (st : Stmt) (m : MS) : Prop := PS X st (tS X.K X.mg E m)
abbrev RSs (X : Cx) (E : XK) (sts : List Stmt) (m : MS) : Prop := PSs X sts (tS X.K X.mg E m)
theorem PSimp {X : Cx} {e : Stmt} {t t' : TS} (h : PS X e t) (i : ∀ D σ H, t' D σ H → t D σ H) : PS X e t' := ⟨fun pins s σ H Q I w => h.run pins s σ H Q I (i Q σ H w)⟩
theorem PSsimp {X : Cx} {e : List Stmt} {t t' : TS} (h : PSs X e t) (i : ∀ D σ H, t' D σ H → t D σ H) : PSs X e t' := ⟨fun pins s σ H Q I w => h.run pins s σ H Q I (i Q σ H w)⟩

/-! ### the slots set -/
theorem get_set_ne {α : Type} {l : List α} {i j : Nat} {a : α} (h : i ≠ j) : (l.set i a)[j]? = l[j]? := List.getElem?_set_ne h
section
variable {K : PySem.W.Frag} {mg : Str → Option Value} {O : Addr → Prop} {st : StA} {σ : L2.St} {ρ : En} {S : DS} {H : Hp} {i : Nat}
theorem own_set {v : Option V} {sd : SD} (n : ¬ isOwn sd) {a : Addr} (h : ownA (σ.set i v) (ρ.set i sd) a) : ownA σ ρ a := by
  obtain ⟨j, t, h1, h2, h3⟩ := h
  by_cases e : i = j
  · subst e
    rw [List.getElem?_set] at h1
    split at h1
    · split at h1
      · cases h1; exact (n h2).elim
      · cases h1
    · rename_i z; exact absurd rfl z
  · rw [get_set_ne e] at h1 h3
    exact ⟨j, t, h1, h2, h3⟩
/-- a slot that is no own list's is set -/
theorem Sim.set (s : Sim K mg O st σ H ρ S) {v : Option V} {sd : SD} (n : ¬ isOwn sd) (h : i < ρ.length → SlotOk K mg st H (AV O st σ ρ) v sd) : Sim K mg O st (σ.set i v) H (ρ.set i sd) S ∧ FrS st σ ρ H (σ.set i v) (ρ.set i sd) H := by
  have fr : FrS st σ ρ H (σ.set i v) (ρ.set i sd) H := ⟨fun _ _ h _ _ => h, fun a q => .inl (own_set n q)⟩
  refine ⟨⟨by simp [s.len], fun j t e => ?_, fun j k t u a h1 h2 h3 h4 h5 h6 => ?_, fun a q => s.far a (own_set n q), s.there, s.state, s.sin, s.off⟩, fr⟩
  · by_cases ei : i = j
    · subst ei
      have hl : i < ρ.length := by
        have := (List.getElem?_eq_some_iff.mp e).1
        simpa using this
      rw [List.getElem?_set_self hl] at e
      cases e
      refine ⟨v, List.getElem?_set_self (by rw [s.len]; exact hl), ?_⟩
      cases h hl with
      | no => exact .no
      | lam => exact .lam
      | val r => exact .val (r.frm fr.frm)
      | own => exact (n trivial).elim
      | ownd => exact (n trivial).elim
      | lckd => exact (n trivial).elim
    · rw [get_set_ne ei] at e
      obtain ⟨o, e1, q⟩ := s.slot j t e
      refine ⟨o, by rw [get_set_ne ei]; exact e1, ?_⟩
      cases q with
      | no => exact .no
      | lam => exact .lam
      | val r => exact .val (r.frm fr.frm)
      | own h r => exact .own h (r.frm fr.frm)
      | ownd h r => exact .ownd h (r.frm fr.frm)
      | lckd h r => exact .lckd h (r.frm fr.frm)
  · by_cases ei : i = j
    · subst ei
      have hl : i < ρ.length := by
        have := (List.getElem?_eq_some_iff.mp h1).1
        simpa using this
      rw [List.getElem?_set_self hl] at h1
      cases h1
      exact (n h3).elim
    · by_cases ek : i = k
      · subst ek
        have hl : i < ρ.length := by
          have := (List.getElem?_eq_some_iff.mp h2).1
          simpa using this
        rw [List.getElem?_set_self hl] at h2
        cases h2
        exact (n h4).elim
      · rw [get_set_ne ei] at h1 h5
        rw [get_set_ne ek] at h2 h6
        exact s.inj j k t u a h1 h2 h3 h4 h5 h6
end
def sSet (i : Nat) (d : D) : MS := fun ρ S => .nx (ρ.set i (.val d)) S
section
variable {X : Cx} {E : XK} {e : Expr} {m : M D} {pos p1 : Pos} {i : Nat} {x : Str}
theorem rs_set (i : Nat) (hN : X.N.Nodup) (hi : X.N[i]? = some x) (hx : Loc X.env.scope x) (he : RE X E e m) (hs : swapsWith e (some (.Name x p1)) pos.line X.env = pure false := by rfl)
    (hf : X.fn x = true ∨ X.env.scope.names.lookup x = some .local := by first | exact .inl rfl | exact .inr rfl | assumption) : RS1 X E (.Assign [.Name x p1] e pos) (sE m (sSet i)) :=
  PSimp (ps_set (i := i) hN hi hx he hs hf) fun D σ H h => by
    refine tG_mono (tS_sE h) fun v H1 h1 => ?_
    obtain ⟨O, st, ρ, S, d, s, r, g⟩ := h1
    obtain ⟨s', f⟩ := s.set (i := i) (v := some v) (sd := .val d) (fun z => z) fun _ => .val r
    exact g _ _ s' f
/-- a, b = x, y -/
def mPar (m : M (List D)) (i j : Nat) : MS := sE m fun ds => match ds with
  | [d, e] => fun ρ S => .nx ((ρ.set i (.val d)).set j (.val e)) S
  | _ => fun _ _ => .bad
theorem rs_par {i j : Nat} {x y : Str} {a b : Expr} {m : M (List D)} {px py pt : Pos} {kt k2 pt2} (hc : X.calm = true) (hN : X.N.Nodup) (hi : X.N[i]? = some x) (hj : X.N[j]? = some y) (hij : i ≠ j)
    (hx : X.env.scope.names.lookup x = some .local) (hy : X.env.scope.names.lookup y = some .local) (ha : RA X E [a, b] m)
    (hw : swappedStores [.Tuple [.Name x px, .Name y py] kt pt] (.Tuple [a, b] k2 pt2) X.env = pure (some [x, y]))
    (hs : swapsWithSole [.Tuple [.Name x px, .Name y py] kt pt] (.Tuple [a, b] k2 pt2) pos.line X.env = pure false := by rfl) :
    RS1 X E (.Assign [.Tuple [.Name x px, .Name y py] kt pt] (.Tuple [a, b] k2 pt2) pos) (mPar m i j) :=
  PSimp (ps_par (i := i) (j := j) hc hN hi hj hij hx hy ha hw hs) fun D σ H h => by
    refine tG_mono (tS_sE h) fun vs H1 h1 => ?_
    obtain ⟨O, st, ρ, S, ds, s, r, g⟩ := h1
    match ds, r, g with
    | [d, e], .cons r1 (.cons r2 .nil), g =>
      obtain ⟨s1, f1⟩ := s.set (i := i) (v := some _) (sd := .val d) (fun z => z) fun _ => .val r1
      obtain ⟨s2, f2⟩ := s1.set (i := j) (v := some _) (sd := .val e) (fun z => z) fun _ => .val (r2.frm f1.frm)
      exact ⟨_, _, rfl, g _ _ s2 (f1.trans f2 s1.sin)⟩
theorem tS1_drop {γ δ : Type} {R1 : Rf γ δ} {K : PySem.W.Frag} {mg : Str → Option Value} {v : γ} {k : MS} {D : Ends} {σ : L2.St} {H : Hp} (h : tS1 K mg E R1 v (fun _ => k) D σ H) : tS K mg E k D σ H := by
  obtain ⟨O, st, ρ, S, a, s, r, g⟩ := h
  exact ⟨O, st, ρ, S, s, g⟩

/-! ### blocks -/
def sNil : MS := fun ρ S => .nx ρ S
def sSeq (a b : MS) : MS := fun ρ S => match a ρ S with
  | .nx ρ' S' => b ρ' S'
  | r => r
theorem rss_nil : RSs X E [] sNil := PSsimp pss_nil fun D σ H ⟨O, st, ρ, S, s, g⟩ => g σ H s FrS.refl
variable {K : PySem.W.Frag} {mg : Str → Option Value} {st st2 : Stmt} {rest : List Stmt} {m1 m2 : MS}
theorem tS_seq {D : Ends} {σ : L2.St} {H : Hp} (h : tS K mg E (sSeq m1 m2) D σ H) : tS K mg E m1 { D with nx := tS K mg E m2 D } σ H := by
  obtain ⟨O, st, ρ, S, s, g⟩ := h
  refine ⟨O, st, ρ, S, s, ?_⟩
  unfold sSeq at g
  cases e : m1 ρ S with
  | nx ρ' S' => rw [e] at g; exact fun σ' H' s' f' => ⟨O, st, ρ', S', s', g.from f' s'.sin⟩
  | bk ρ' S' => rw [e] at g; exact g
  | ct ρ' S' => rw [e] at g; exact g
  | rt d S' => rw [e] at g; exact g
  | exc x S' => rw [e] at g; exact g
  | bad => rw [e] at g; exact g
theorem rss_cons (h1 : RS1 X E st m1) (h2 : RSs X E rest m2) : RSs X E (st :: rest) (sSeq m1 m2) := PSsimp (pss_cons h1 h2) fun D σ H h => tS_seq h
theorem rss_one (h1 : RS1 X E st m1) : RSs X E [st] m1 := pss_one h1
def sIf (mc : M Bool) (a b : MS) : MS := sE mc fun k => if k = true then a else b
theorem rs_if {c : Expr} {a b : List Stmt} {mc : M Bool} {ma mb : MS} (hc : RT X E c mc) (ha : RSs X E a ma) (hb : RSs X E b mb) : RS1 X E (.If c a b pos) (sIf mc ma mb) := PSimp (ps_if hc ha hb) fun D σ H h => by
  refine tG_mono (tS_sE (R1 := RfB) h) fun k H1 h1 => ?_
  obtain ⟨O, st, ρ, S, k', s, rfl, g⟩ := h1
  cases k with
  | true => exact ⟨O, st, ρ, S, s, g⟩
  | false => exact ⟨O, st, ρ, S, s, g⟩
def sRt (d : D) : MS := fun _ S => .rt d S
theorem ret_ok {O : Addr → Prop} {st : StA} {σ : L2.St} {ρ : En} {S : DS} {H : Hp} {v : V} {d : D} {D : Ends} (s : Sim K mg O st σ H ρ S) (r : Rep K mg st H (AV O st σ ρ) v d) (g : GoodS K mg E O st σ ρ H (.rt d S) D) : D.rt v H :=
  g v H (fun _ _ h _ _ => h) s.state (r.weak fun a q => by
    rcases q with q | q
    · exact .inl q
    · exact .inr (.inl q))
theorem rs_ret (he : RE X E e m) : RS1 X E (.Return (some e) pos) (sE m sRt) := PSimp (ps_ret he) fun D σ H h => by
  refine tG_mono (tS_sE h) fun v H1 h1 => ?_
  obtain ⟨O, st, ρ, S, d, s, r, g⟩ := h1
  exact ret_ok s r g
/-- a list of one's own, or plain data, is given back -/
theorem rs_retQ (he : RQ X E e m) : RS1 X E (.Return (some e) pos) (sE m sRt) := PSimp (ps_ret he) fun D σ H h => by
  refine tG_mono (tS_sE h) fun v H1 h1 => ?_
  obtain ⟨O, st, ρ, S, d, s, r, g⟩ := h1
  rcases r with r | ⟨a, vs, ds, rfl, rfl, n, h, r⟩
  · exact ret_ok s r g
  · exact g _ _ (fun _ _ h _ _ => h) s.state (.lst n h (r.weak fun a q => by
      rcases q with q | q
      · exact .inl q
      · exact .inr (.inl q)))
theorem rs_retN : RS1 X E (.Return none pos) (sRt .non) := PSimp ps_retN fun D σ H ⟨O, st, ρ, S, s, g⟩ => g .non H (fun _ _ h _ _ => h) s.state .non
/-- an expression whose value is dropped -/
def sDrop (m : M D) : MS := sE m fun _ => sNil
theorem rs_expr (he : RE X E e m) (hs : swapsWith e none pos.line X.env = pure false := by rfl) : RS1 X E (.Expr e pos) (sDrop m) := PSimp (ps_expr he hs) fun D σ H h => by
  refine tG_mono (tS_sE (R1 := RfD X.K X.mg) h) fun v H1 h1 => ?_
  obtain ⟨O, st, ρ, S, d, s, r, g⟩ := h1
  exact g _ _ s FrS.refl
end
end Pf
end

section
set_option Elab.async false
set_option linter.all false
set_option maxRecDepth 100000
namespace Pf
open PySem PySem.Spec L2
variable [TabsC]

/-! ### lists and dicts of one's own -/
inductive OwnOk (K : PySem.W.Frag) (mg : Str → Option Value) (st : StA) (H : Hp) (A : Addr → Prop) : HO → SD → Prop
  | lst {vs : List V} {ds : List D} : Reps K mg st H A vs ds → OwnOk K mg st H A (.lst vs) (.own ds)
  | dic {kv : List (Key × V)} {kd : List (D × D)} : KReps K mg st H A kv kd → OwnOk K mg st H A (.dK kv) (.ownd kd)
  | frz {kv : List (Key × V)} {kd : List (D × D)} {ob : Obj} : KReps K mg st H A kv kd → OwnOk K mg st H A (.frz ob (.dK kv)) (.lckd kd)
section
variable {K : PySem.W.Frag} {mg : Str → Option Value} {O : Addr → Prop} {st : StA} {σ : L2.St} {ρ : En} {S : DS} {H : Hp} {i : Nat} {p : Addr} {o : HO} {sd : SD}
theorem OwnOk.frm {A A' : Addr → Prop} {H H' : Hp} (f : Frm A A' H H') (h : OwnOk K mg st H A o sd) : OwnOk K mg st H' A' o sd := by
  cases h with
  | lst r => exact .lst (r.frm f)
  | dic r => exact .dic (r.frm f)
  | frz r => exact .frz (r.frm f)
theorem OwnOk.slot {A : Addr → Prop} (h : OwnOk K mg st H A o sd) (e : H p = some o) : SlotOk K mg st H A (some (.ref p)) sd := by
  cases h with
  | lst r => exact .own e r
  | dic r => exact .ownd e r
  | frz r => exact .lckd e r
theorem OwnOk.hard {A : Addr → Prop} (h : OwnOk K mg st H A o sd) : ∀ φ, o ≠ .ext φ := by
  cases h <;> exact fun φ z => by cases z
theorem OwnOk.own {A : Addr → Prop} (h : OwnOk K mg st H A o sd) : isOwn sd := by
  cases h <;> trivial
abbrev plusA (O : Addr → Prop) (p : Addr) : Addr → Prop := fun a => O a ∨ a = p
theorem Sim.resFrm (s : Sim K mg O st σ H ρ S) (hp : H p = none) (o : HO) : Frm (AV O st σ ρ) (AV (plusA O p) st σ ρ) H (upd H p o) :=
  ⟨fun a u h _ => by rw [upd_ne (ne_of_none h hp)]; exact h, fun a q => by
    rcases q with (q | q) | q
    · exact .inl (.inl q)
    · rw [q]; exact .inr hp
    · exact .inl (.inr q)⟩
/-- a new object, set apart -/
theorem Sim.reserve (s : Sim K mg O st σ H ρ S) (hp : H p = none) (o : HO) (ho : ∀ φ, o ≠ .ext φ) : Sim K mg (plusA O p) st σ (upd H p o) ρ S := by
  have s' := s.ext (FrE.laid (st := st) (o := o) hp) (s.state.laid hp)
  refine ⟨s.len, fun i sd e => ?_, s.inj, fun a q => ⟨fun z => ?_, (s.far a q).2⟩, fun a q => ?_, s'.state, s'.sin, fun a q z => q.elim (fun y => s.off a y z) fun y => s.sin a z (by rw [y]; exact hp)⟩
  · obtain ⟨w, e1, q⟩ := s.slot i sd e
    refine ⟨w, e1, ?_⟩
    have fr := s.resFrm hp o
    cases q with
    | no => exact .no
    | lam => exact .lam
    | val r => exact .val (r.frm fr)
    | own h r => exact .own (by rw [upd_ne (ne_of_none h hp)]; exact h) (r.frm fr)
    | ownd h r => exact .ownd (by rw [upd_ne (ne_of_none h hp)]; exact h) (r.frm fr)
    | lckd h r => exact .lckd (by rw [upd_ne (ne_of_none h hp)]; exact h) (r.frm fr)
  · rcases z with z | z
    · exact (s.far a q).1 z
    · obtain ⟨u, hu⟩ := s.owned q
      rw [z, hp] at hu; cases hu
  · rcases q with q | q
    · exact s'.there a q
    · rw [q]; exact ⟨o, upd_same, ho⟩
theorem own_set_in {sd : SD} {a : Addr} (h : ownA (List.set σ i (some (V.ref p))) (ρ.set i sd) a) : ownA σ ρ a ∨ a = p := by
  obtain ⟨j, t, h1, h2, h3⟩ := h
  by_cases e : i = j
  · subst e
    rw [List.getElem?_set] at h3
    split at h3
    · split at h3
      · cases h3; exact .inr rfl
      · cases h3
    · rename_i z; exact absurd rfl z
  · rw [get_set_ne e] at h1 h3
    exact .inl ⟨j, t, h1, h2, h3⟩
/-- what was set apart becomes one's own -/
theorem Sim.adopt (s : Sim K mg (plusA O p) st σ H ρ S) (hp : H p = some o) (ok : OwnOk K mg st H (AV (plusA O p) st σ ρ) o sd) (n1 : ¬ O p) (n2 : ¬ stA st p) (hi : i < ρ.length) :
    Sim K mg O st (List.set σ i (some (V.ref p))) H (ρ.set i sd) S := by
  have fr : Frm (AV (plusA O p) st σ ρ) (AV O st (List.set σ i (some (V.ref p))) (ρ.set i sd)) H H := ⟨fun _ _ h _ => h, fun a q => .inl (by
    rcases q with q | q | q
    · exact .inl (.inl q)
    · exact .inr (.inl q)
    · rcases own_set_in q with z | z
      · exact .inr (.inr z)
      · exact .inl (.inr z))⟩
  have hs : i < σ.length := by rw [s.len]; exact hi
  have np : ∀ j t, ρ[j]? = some t → isOwn t → σ[j]? ≠ some (some (V.ref p)) := fun j t h1 h2 h3 => (s.far p ⟨j, t, h1, h2, h3⟩).1 (.inr rfl)
  refine ⟨by simp [s.len], fun j t e => ?_, fun j k t u a h1 h2 h3 h4 h5 h6 => ?_, fun a q => ?_, fun a q => s.there a (.inl q), s.state, s.sin, fun a q => s.off a (.inl q)⟩
  · by_cases ei : i = j
    · subst ei
      rw [List.getElem?_set_self hi] at e
      cases e
      exact ⟨_, List.getElem?_set_self hs, (ok.frm fr).slot hp⟩
    · rw [get_set_ne ei] at e
      obtain ⟨w, e1, q⟩ := s.slot j t e
      refine ⟨w, by rw [get_set_ne ei]; exact e1, ?_⟩
      cases q with
      | no => exact .no
      | lam => exact .lam
      | val r => exact .val (r.frm fr)
      | own h r => exact .own h (r.frm fr)
      | ownd h r => exact .ownd h (r.frm fr)
      | lckd h r => exact .lckd h (r.frm fr)
  · by_cases ei : i = j
    · by_cases ek : i = k
      · rw [← ei, ← ek]
      · subst ei
        rw [List.getElem?_set_self hs] at h5
        cases h5
        rw [get_set_ne ek] at h2 h6
        exact absurd h6 (np k u h2 h4)
    · by_cases ek : i = k
      · subst ek
        rw [List.getElem?_set_self hs] at h6
        cases h6
        rw [get_set_ne ei] at h1 h5
        exact absurd h5 (np j t h1 h3)
      · rw [get_set_ne ei] at h1 h5
        rw [get_set_ne ek] at h2 h6
        exact s.inj j k t u a h1 h2 h3 h4 h5 h6
  · rcases own_set_in q with z | z
    · exact ⟨fun y => (s.far a z).1 (.inl y), (s.far a z).2⟩
    · rw [z]; exact ⟨n1, n2⟩
/-- a new object is assigned -/
theorem Sim.setNew (s : Sim K mg O st σ H ρ S) (hp : H p = none) (ok : OwnOk K mg st H (AV O st σ ρ) o sd) (hi : i < ρ.length) :
    Sim K mg O st (List.set σ i (some (V.ref p))) (upd H p o) (ρ.set i sd) S ∧ FrS st σ ρ H (List.set σ i (some (V.ref p))) (ρ.set i sd) (upd H p o) := by
  refine ⟨(s.reserve hp o ok.hard).adopt upd_same (ok.frm (s.resFrm hp o)) (fun z => (s.there p z).ne hp) (fun z => s.sin p z hp) hi, fun a u h _ _ => by rw [upd_ne (ne_of_none h hp)]; exact h, fun a q => ?_⟩
  rcases own_set_in q with z | z
  · exact .inl z
  · rw [z]; exact .inr hp
/-- an object of one's own is changed -/
theorem Sim.change {sd0 : SD} (s : Sim K mg O st σ H ρ S) (h1 : ρ[i]? = some sd0) (h2 : isOwn sd0) (h3 : σ[i]? = some (some (.ref p))) (ok : OwnOk K mg st H (AV O st σ ρ) o sd) :
    Sim K mg O st σ (upd H p o) (ρ.set i sd) S ∧ FrS st σ ρ H σ (ρ.set i sd) (upd H p o) := by
  have hi : i < ρ.length := (List.getElem?_eq_some_iff.mp h1).1
  have ow : ownA σ ρ p := ⟨i, _, h1, h2, h3⟩
  have same : ∀ a, ownA σ (ρ.set i sd) a → ownA σ ρ a := fun a ⟨j, t, g1, g2, g3⟩ => by
    by_cases ei : i = j
    · subst ei
      rw [h3] at g3; cases g3
      exact ow
    · rw [get_set_ne ei] at g1
      exact ⟨j, t, g1, g2, g3⟩
  have fr : Frm (AV O st σ ρ) (AV O st σ (ρ.set i sd)) H (upd H p o) := ⟨fun a u h n => by rw [upd_ne (fun z => n (.inr (.inr (by rw [z]; exact ow))))]; exact h, fun a q => by
    rcases q with q | q | q
    · exact .inl (.inl q)
    · exact .inl (.inr (.inl q))
    · exact .inl (.inr (.inr (same a q)))⟩
  obtain ⟨f1, f2⟩ := s.far p ow
  refine ⟨⟨by simp [s.len], fun j t e => ?_, fun j k t u a g1 g2 g3 g4 g5 g6 => ?_, fun a q => s.far a (same a q), fun a q => ?_, ?_, ?_, s.off⟩, fun a u h _ m => by rw [upd_ne (fun z => m (by rw [z]; exact ow))]; exact h, fun a q => .inl (same a q)⟩
  · by_cases ei : i = j
    · subst ei
      rw [List.getElem?_set_self hi] at e
      cases e
      exact ⟨_, h3, (ok.frm fr).slot upd_same⟩
    · rw [get_set_ne ei] at e
      obtain ⟨w, e1, q⟩ := s.slot j t e
      refine ⟨w, e1, ?_⟩
      have nn : ∀ b, isOwn t → w = some (.ref b) → b ≠ p := fun b z y x => by
        subst y x
        exact ei (s.inj i j _ _ _ h1 e h2 z h3 e1)
      cases q with
      | no => exact .no
      | lam => exact .lam
      | val r => exact .val (r.frm fr)
      | own h r => exact .own (by rw [upd_ne (nn _ trivial rfl)]; exact h) (r.frm fr)
      | ownd h r => exact .ownd (by rw [upd_ne (nn _ trivial rfl)]; exact h) (r.frm fr)
      | lckd h r => exact .lckd (by rw [upd_ne (nn _ trivial rfl)]; exact h) (r.frm fr)
  · have gj : ∃ t', ρ[j]? = some t' ∧ isOwn t' := by
      by_cases ei : i = j
      · subst ei; exact ⟨_, h1, h2⟩
      · rw [get_set_ne ei] at g1; exact ⟨_, g1, g3⟩
    have gk : ∃ t', ρ[k]? = some t' ∧ isOwn t' := by
      by_cases ei : i = k
      · subst ei; exact ⟨_, h1, h2⟩
      · rw [get_set_ne ei] at g2; exact ⟨_, g2, g4⟩
    obtain ⟨t', a1, a2⟩ := gj
    obtain ⟨u', b1, b2⟩ := gk
    exact s.inj j k _ _ a a1 b1 a2 b2 g5 g6
  · obtain ⟨u, u1, u2⟩ := s.there a q
    exact ⟨u, by rw [upd_ne (fun z => f1 (by rw [← z]; exact q))]; exact u1, u2⟩
  · have np : ∀ φ, H p ≠ some (.ext φ) := fun φ z => by
      obtain ⟨w, e1, q⟩ := s.slot i _ h1
      rw [h3] at e1; cases e1
      cases q with
      | no => exact h2
      | lam => exact h2
      | val => exact h2
      | own h _ => rw [h] at z; cases z
      | ownd h _ => rw [h] at z; cases z
      | lckd h _ => rw [h] at z; cases z
    exact s.state.stay (fun a u q e => by rw [upd_ne (fun z => f2 (by rw [← z]; exact q))]; exact e) fun a φ e => by rw [upd_ne (fun z => np φ (by rw [← z]; exact e))]; exact e
  · intro a q
    rw [upd_ne (fun z => f2 (by rw [← z]; exact q))]; exact s.sin a q
end

/-! ### expressions whose value is a new list -/
section
variable (K : PySem.W.Frag) (mg : Str → Option Value) (E : XK)
def GoodN (O : Addr → Prop) (st : StA) (σ : L2.St) (ρ : En) (H : Hp) (r : Res (List D)) (Q : VK) : Prop := match r with
  | .ok ds S' => ∀ H1 p vs, FrE st H H1 → StOk st H1 S' → H1 p = none → Reps K mg st H1 (AV O st σ ρ) vs ds → Q (.ref p) (upd H1 p (.lst vs))
  | .exc x S' => ∀ cls dx H', FrE st H H' → StOk st H' S' → XR K mg st H' (AV0 O st) cls dx x → E cls dx H'
  | .bad => False
def tN (m : M (List D)) : TE := fun σ H Q => ∃ O st ρ S, Sim K mg O st σ H ρ S ∧ GoodN K mg E O st σ ρ H (m ρ S) Q
end
abbrev RN (X : Cx) (E : XK) (e : Expr) (m : M (List D)) : Prop := PE X e (tN X.K X.mg E m)
section
variable {X : Cx} {E : XK} {e a b : Expr} {es : List Expr} {m : M (List D)} {md ma mb : M D} {pos p1 p2 : Pos} {i : Nat} {x : Str}
theorem rn_re (h : RN X E e m) : RE X E e (bnd m fun ds => ret (.lst ds)) := PEimp h fun σ H Q ⟨O, st, ρ, S, s, g⟩ => ⟨O, st, ρ, S, s, by
  unfold bnd at g
  cases hm : m ρ S with
  | ok ds S' => rw [hm] at g; exact fun H1 q vs f sq hq r => g _ _ (f.trans (FrE.laid hq)) (sq.laid hq) ((s.ext f sq).mkL r hq)
  | exc x S' => rw [hm] at g; exact g
  | bad => rw [hm] at g; exact g⟩
/-- from a rule that gives a list at any free place -/
theorem tN_of {γ δ : Type} {R1 : Rf γ δ} {m1 : M δ} {k : δ → M (List D)} {σ : L2.St} {H : Hp} {Q : VK} (h : tN X.K X.mg E (bnd m1 k) σ H Q) :
    tG X.K X.mg E R1 m1 σ H fun x H1 => ∃ O st ρ S a, Sim X.K X.mg O st σ H1 ρ S ∧ R1 O st σ ρ H1 x a ∧ GoodN X.K X.mg E O st σ ρ H1 (k a ρ S) Q := by
  obtain ⟨O, st, ρ, S, s, g⟩ := h
  refine ⟨O, st, ρ, S, s, ?_⟩
  unfold bnd at g
  cases e : m1 ρ S with
  | ok d S' =>
    rw [e] at g
    refine fun v H' f q r => ⟨O, st, ρ, S', d, s.ext f q, r, ?_⟩
    dsimp only at g
    cases e2 : k d ρ S' with
    | ok ds S2 => rw [e2] at g; exact fun H1 p vs f1 => g H1 p vs (f.trans f1)
    | exc x S2 => rw [e2] at g; exact fun c dx H1 f1 => g c dx H1 (f.trans f1)
    | bad => rw [e2] at g; exact g
  | exc x S' => rw [e] at g; exact g
  | bad => rw [e] at g; exact g
def asL : D → M (List D)
  | .lst ds => ret ds
  | .tup ds => ret ds
  | _ => bad
def asLst : D → M (List D)
  | .lst ds => ret ds
  | _ => bad
theorem rn_lst {ms : M (List D)} (h : RA X E es ms) : RN X E (.List es pos) (bnd ms fun ds => if ds.length ≤ 1000 then ret ds else bad) := PEimp (pe_lst h) fun σ H Q h => by
  refine tG_mono (tN_of (R1 := RfL X.K X.mg) h) fun xs H1 h1 => ?_
  obtain ⟨O, st, ρ, S, ds, s, r, g⟩ := h1
  split at g
  · rename_i hz
    exact ⟨by rw [r.length]; exact small hz, fun p hp => g H1 p xs FrE.refl s.state hp r⟩
  · exact g.elim
theorem rn_list (hg : Gl X "list") (hm : X.mg "list" = none) (ha : RQ X E a ma) (hs : starEach [a] X.env = (false, eval a X.env) :: starEach [] X.env := by rfl) : RN X E (.Call (.Name "list" p1) [a] [] pos) (bnd ma asL) :=
  PEimp (pe_callTy call_list_of hg hm (by decide +kernel) (pa_cons ha pa_nil hs) (he := hs)) fun σ H Q h => by
    refine tG_mono (tN_of (R1 := RfQ X.K X.mg) h) fun y H1 h1 => ?_
    obtain ⟨O, st, ρ, S, d, s, r, g⟩ := h1
    cases d <;> try (exact g.elim)
    · obtain ⟨p, vs, rfl, h1, r1⟩ := q_tup r
      exact ⟨p, vs, rfl, .inr h1, fun l hl => g H1 l vs FrE.refl s.state hl r1⟩
    · obtain ⟨p, vs, rfl, h1, _, r1⟩ := q_lst r
      exact ⟨p, vs, rfl, .inl (SqL.of h1), fun l hl => g H1 l vs FrE.refl s.state hl r1⟩
def catL : D → D → M (List D)
  | .lst xs, .lst ys => if xs.length + ys.length ≤ sizeLine then ret (xs ++ ys) else bad
  | _, _ => bad
theorem tN_of2 {m1 m2 : M D} {k : D → D → M (List D)} {σ : L2.St} {H : Hp} {Q : VK} (h : tN X.K X.mg E (bn2 m1 m2 k) σ H Q) :
    tG X.K X.mg E (RfQ X.K X.mg) m1 σ H fun x H1 => tG X.K X.mg E (RfQ X.K X.mg) m2 σ H1 fun y H2 => ∃ O st ρ S a b, Sim X.K X.mg O st σ H2 ρ S ∧ RfQ X.K X.mg O st σ ρ H2 x a ∧ RfQ X.K X.mg O st σ ρ H2 y b ∧ GoodN X.K X.mg E O st σ ρ H2 (k a b ρ S) Q := by
  refine tG_mono (tN_of (R1 := RfQ X.K X.mg) h) fun x H1 h1 => ?_
  obtain ⟨O, st, ρ, S, d, s, r, g⟩ := h1
  refine ⟨O, st, ρ, S, s, ?_⟩
  unfold bnd at g
  cases e : m2 ρ S with
  | ok d2 S' =>
    rw [e] at g
    refine fun v H' f q r2 => ⟨O, st, ρ, S', d, d2, s.ext f q, RfQ.stable _ _ _ _ _ _ _ _ f r, r2, ?_⟩
    dsimp only at g
    cases e2 : k d d2 ρ S' with
    | ok ds S2 => rw [e2] at g; exact fun H1 p vs f1 => g H1 p vs (f.trans f1)
    | exc x S2 => rw [e2] at g; exact fun c dx H1 f1 => g c dx H1 (f.trans f1)
    | bad => rw [e2] at g; exact g
  | exc x S' => rw [e] at g; exact g
  | bad => rw [e] at g; exact g
theorem rn_add (ha : RQ X E a ma) (hb : RQ X E b mb) : RN X E (.BinOp a .Add b pos) (bn2 ma mb catL) := PEimp (pe_op op_cat ha hb) fun σ H Q h => by
  refine tG_mono (tN_of2 h) fun x H1 h1 => tG_mono h1 fun y H2 h2 => ?_
  obtain ⟨O, st, ρ, S, d1, d2, s, r1, r2, g⟩ := h2
  unfold catL at g
  split at g
  · split at g
    · rename_i hz
      obtain ⟨p, vs, rfl, e1, _, q1⟩ := q_lst r1
      obtain ⟨q, ws, rfl, e2, _, q2⟩ := q_lst r2
      exact ⟨p, q, vs, ws, rfl, rfl, e1, e2, by rw [q1.length, q2.length]; exact hz, fun l hl => g H2 l _ FrE.refl s.state hl (q1.append q2)⟩
    · exact g.elim
  · exact g.elim
def repL : D → D → M (List D)
  | .lst xs, .int k => if -(2 ^ 63) ≤ k ∧ k < 2 ^ 63 ∧ xs.length * k.toNat ≤ sizeLine then ret (List.replicate k.toNat xs).flatten else bad
  | _, _ => bad
theorem rn_mul (ha : RQ X E a ma) (hb : RQ X E b mb) : RN X E (.BinOp a .Mult b pos) (bn2 ma mb repL) := PEimp (pe_op op_rep ha hb) fun σ H Q h => by
  refine tG_mono (tN_of2 h) fun x H1 h1 => tG_mono h1 fun y H2 h2 => ?_
  obtain ⟨O, st, ρ, S, d1, d2, s, r1, r2, g⟩ := h2
  unfold repL at g
  split at g
  · split at g
    · rename_i hz
      cases q_int r2
      obtain ⟨p, vs, rfl, e1, _, q1⟩ := q_lst r1
      exact ⟨p, _, vs, rfl, rfl, e1, hz.1, hz.2.1, by rw [q1.length]; exact hz.2.2, fun l hl => g H2 l _ FrE.refl s.state hl (reps_rep q1 _)⟩
    · exact g.elim
  · exact g.elim

/-! ### own lists: made, lengthened, shortened -/
def sOwn (i : Nat) (ds : List D) : MS := fun ρ S => if i < ρ.length then .nx (ρ.set i (.own ds)) S else .bad
theorem rs_own (i : Nat) (hN : X.N.Nodup) (hi : X.N[i]? = some x) (hx : Loc X.env.scope x) (he : RN X E e m) (hs : swapsWith e (some (.Name x p1)) pos.line X.env = pure false := by rfl)
    (hf : X.fn x = true ∨ X.env.scope.names.lookup x = some .local := by first | exact .inl rfl | exact .inr rfl | assumption) : RS1 X E (.Assign [.Name x p1] e pos) (sE m (sOwn i)) :=
  PSimp (ps_set (i := i) hN hi hx he hs hf) fun D σ H ⟨O, st, ρ, S, s, g⟩ => ⟨O, st, ρ, S, s, by
    unfold sE at g
    cases em : m ρ S with
    | ok ds S' =>
      rw [em] at g
      refine fun H1 p vs f sq hp r => ?_
      have s1 := s.ext f sq
      dsimp only [sOwn] at g
      by_cases hl : i < ρ.length
      · rw [if_pos hl] at g
        obtain ⟨s2, f2⟩ := s1.setNew (i := i) hp (.lst r) hl
        exact g _ _ s2 (f.fs.trans f2 s1.sin)
      · rw [if_neg hl] at g
        exact g.elim
    | exc x S' => rw [em] at g; exact fun c dx H' f q r => g c dx H' (fun a o h n _ => f a o h n) q r
    | bad => rw [em] at g; exact g⟩
/-- x = {} -/
def sOwnD0 (i : Nat) : MS := fun ρ S => if i < ρ.length then .nx (ρ.set i (.ownd [])) S else .bad
theorem rs_ownD0 (i : Nat) (hN : X.N.Nodup) (hi : X.N[i]? = some x) (hx : Loc X.env.scope x) (hs : swapsWith (.Dict [] [] p2) (some (.Name x p1)) pos.line X.env = pure false := by rfl)
    (hf : X.fn x = true ∨ X.env.scope.names.lookup x = some .local := by first | exact .inl rfl | exact .inr rfl | assumption) : RS1 X E (.Assign [.Name x p1] (.Dict [] [] p2) pos) (sOwnD0 i) :=
  PSimp (ps_set (i := i) hN hi hx pe_dnewK hs hf) fun D σ H ⟨O, st, ρ, S, s, g⟩ => fun p hp => by
    dsimp only [sOwnD0] at g
    by_cases hl : i < ρ.length
    · rw [if_pos hl] at g
      obtain ⟨s2, f2⟩ := s.setNew (i := i) hp (.dic .nil) hl
      exact g _ _ s2 f2
    · rw [if_neg hl] at g
      exact g.elim
/-- x.append(e) -/
def sApp (i : Nat) (m : M D) : MS := fun ρ S => match ρ[i]? with
  | some (.own ds) => sE m (fun d ρ S => if ds.length < 16777216 then .nx (ρ.set i (.own (ds ++ [d]))) S else .bad) ρ S
  | _ => .bad
theorem line_eq : sizeLine = 16777216 := sizeLine_eq
theorem rs_app {c : Expr} (hc : PE X c (tBM X.K "list" rAppend (tVar i) (tCons (tG X.K X.mg E (RfD X.K X.mg) md) tNil))) (hsw : swapsWith c none pos.line X.env = pure false := by rfl) : RS1 X E (.Expr c pos) (sApp i md) :=
  PSimp (ps_expr hc hsw) fun D σ H ⟨O, st, ρ, S, s, g⟩ => by
    unfold sApp at g
    split at g
    · rename_i ds hρ
      obtain ⟨w, e1, q⟩ := s.slot i _ hρ
      cases q with
      | own h r =>
        rename_i p vs
        refine ⟨_, e1, .inl ⟨rfl, _, SqL.of h⟩, O, st, ρ, S, s, ?_⟩
        unfold sE at g
        cases em : md ρ S with
        | ok d S' =>
          rw [em] at g
          refine fun v H1 f sq rv => ?_
          have s1 := s.ext f sq
          dsimp only at g
          split at g
          · rename_i hz
            have hp : H1 p = some (.lst vs) := f _ _ h (s.far _ ⟨i, _, hρ, trivial, e1⟩).2
            refine ⟨p, vs, v, rfl, rfl, hp, by rw [r.length, line_eq]; exact hz, ?_⟩
            obtain ⟨s2, f2⟩ := s1.change hρ trivial e1 (.lst ((r.frm f.frm).append (.cons rv .nil)))
            exact g _ _ s2 (f.fs.trans f2 s1.sin)
          · exact g.elim
        | exc x S' => rw [em] at g; exact fun c dx H' f q r => g c dx H' (fun a o h n _ => f a o h n) q r
        | bad => rw [em] at g; exact g
    · exact g.elim
/-- x.extend(a list) -/
def sExt (i : Nat) (m : M D) : MS := fun ρ S => match ρ[i]? with
  | some (.own ds) => sE m (fun d ρ S => match d with
    | .lst es => if ds.length + es.length ≤ 16777216 then .nx (ρ.set i (.own (ds ++ es))) S else .bad
    | _ => .bad) ρ S
  | _ => .bad
theorem rs_ext {c : Expr} (hc : PE X c (tBM X.K "list" rExtend (tVar i) (tCons (tG X.K X.mg E (RfD X.K X.mg) md) tNil))) (hsw : swapsWith c none pos.line X.env = pure false := by rfl) : RS1 X E (.Expr c pos) (sExt i md) :=
  PSimp (ps_expr hc hsw) fun D σ H ⟨O, st, ρ, S, s, g⟩ => by
    unfold sExt at g
    split at g
    · rename_i ds hρ
      obtain ⟨w, e1, q⟩ := s.slot i _ hρ
      cases q with
      | own h r =>
        rename_i p vs
        refine ⟨_, e1, .inl ⟨rfl, _, SqL.of h⟩, O, st, ρ, S, s, ?_⟩
        unfold sE at g
        cases em : md ρ S with
        | ok d S' =>
          rw [em] at g
          refine fun v H1 f sq rv => ?_
          have s1 := s.ext f sq
          dsimp only at g
          cases d <;> try (exact g.elim)
          rename_i es
          dsimp only at g
          split at g
          · rename_i hz
            have hp : H1 p = some (.lst vs) := f _ _ h (s.far _ ⟨i, _, hρ, trivial, e1⟩).2
            obtain ⟨q, ws, rfl, hq, _, rq⟩ := q_lst (.inl rv)
            refine ⟨p, q, vs, ws, rfl, rfl, hp, hq, by rw [r.length, rq.length, line_eq]; exact hz, ?_⟩
            obtain ⟨s2, f2⟩ := s1.change hρ trivial e1 (.lst ((r.frm f.frm).append rq))
            exact g _ _ s2 (f.fs.trans f2 s1.sin)
          · exact g.elim
        | exc x S' => rw [em] at g; exact fun c dx H' f q r => g c dx H' (fun a o h n _ => f a o h n) q r
        | bad => rw [em] at g; exact g
    · exact g.elim

/-! ### targets -/
def tTg (K : PySem.W.Frag) (mg : Str → Option Value) (E : XK) (g : D → MS) : TG := fun v σ H Q => ∃ O st ρ S d, Sim K mg O st σ H ρ S ∧ Rep K mg st H (AV O st σ ρ) v d ∧ GoodS K mg E O st σ ρ H (g d ρ S) { nx := Q, rt := fun _ _ => False }
def tTgs (K : PySem.W.Frag) (mg : Str → Option Value) (E : XK) (g : List D → MS) : TGs := fun v σ H Q => ∃ O st ρ S d, Sim K mg O st σ H ρ S ∧ Reps K mg st H (AV O st σ ρ) v d ∧ GoodS K mg E O st σ ρ H (g d ρ S) { nx := Q, rt := fun _ _ => False }
abbrev RG (X : Cx) (E : XK) (tg : Expr) (g : D → MS) : Prop := PG X tg (tTg X.K X.mg E g)
abbrev RGs (X : Cx) (E : XK) (tg : List Expr) (g : List D → MS) : Prop := PGs X tg (tTgs X.K X.mg E g)
theorem PGimp {e : Expr} {t t' : TG} (h : PG X e t) (i : ∀ v σ H Q, t' v σ H Q → t v σ H Q) : PG X e t' := ⟨fun pins s σ H v u Q I r w => h.run pins s σ H v u Q I r (i v σ H Q w)⟩
theorem PGsimp {e : List Expr} {t t' : TGs} (h : PGs X e t) (i : ∀ v σ H Q, t' v σ H Q → t v σ H Q) : PGs X e t' := ⟨fun pins s σ H v u Q I r w => h.run pins s σ H v u Q I r (i v σ H Q w)⟩
theorem rg_name (i : Nat) (hN : X.N.Nodup) (hi : X.N[i]? = some x) (hx : Loc X.env.scope x) (hf : X.fn x = true ∨ X.env.scope.names.lookup x = some .local := by first | exact .inl rfl | exact .inr rfl | assumption) : RG X E (.Name x pos) (sSet i) :=
  PGimp (pg_name (i := i) hN hi hx hf) fun v σ H Q ⟨O, st, ρ, S, d, s, r, g⟩ => by
    obtain ⟨s', f⟩ := s.set (i := i) (v := some v) (sd := .val d) (fun z => z) fun _ => .val r
    exact g _ _ s' f
def gNil' : List D → MS
  | [] => sNil
  | _ => fun _ _ => .bad
def gCons' (g : D → MS) (gs : List D → MS) : List D → MS
  | d :: ds => sSeq (g d) (gs ds)
  | [] => fun _ _ => .bad
theorem rgs_nil : RGs X E [] gNil' := PGsimp pgs_nil fun v σ H Q ⟨O, st, ρ, S, d, s, r, g⟩ => by
  cases r with
  | nil => exact ⟨rfl, g _ _ s FrS.refl⟩
  | cons => exact g.elim
theorem rgs_cons {g : D → MS} {gs : List D → MS} (h1 : RG X E e g) (h2 : RGs X E es gs) (hs : (assignEach (e :: es) X.env).map (·.2) = assign e X.env :: (assignEach es X.env).map (·.2) := by rfl) : RGs X E (e :: es) (gCons' g gs) :=
  PGsimp (pgs_cons h1 h2 hs) fun v σ H Q ⟨O, st, ρ, S, d, s, r, gg⟩ => by
    cases r with
    | nil => exact gg.elim
    | cons r1 r2 =>
      refine ⟨_, _, rfl, O, st, ρ, S, _, s, r1, ?_⟩
      unfold gCons' sSeq at gg
      dsimp only at gg
      split at gg
      · rename_i ρ' S' e
        rw [e]
        exact fun σ' H' s' f' => ⟨O, st, ρ', S', _, s', r2.frm f'.frm, gg.from f' s'.sin⟩
      · rename_i r' hr
        cases e2 : g _ ρ S with
        | nx ρ' S' => exact absurd e2 (hr _ _)
        | bk ρ' S' => rw [e2] at gg; exact gg
        | ct ρ' S' => rw [e2] at gg; exact gg
        | rt d S' => rw [e2] at gg; exact gg
        | exc x S' => rw [e2] at gg; exact gg
        | bad => rw [e2] at gg; exact gg
def gTup' (n : Nat) (gs : List D → MS) : D → MS
  | .tup ds => if ds.length = n then gs ds else fun _ _ => .bad
  | .par ds => if ds.length = n then gs ds else fun _ _ => .bad
  | _ => fun _ _ => .bad
theorem rg_tup {k : Nat} {gs : List D → MS} {n : Nat} (hc : X.calm = true) (h : RGs X E es gs) (hn : (assignEach es X.env).length = n := by rfl) (hst : (assignEach es X.env).findIdx? (·.1) = none := by rfl) : RG X E (.Tuple es k pos) (gTup' n gs) :=
  PGimp (pg_tup hc h hn hst) fun v σ H Q ⟨O, st, ρ, S, d, s, r, g⟩ => by
    cases d <;> try (exact g.elim)
    case tup =>
      rename_i ds
      dsimp only [gTup'] at g
      by_cases hz : ds.length = n
      · rw [if_pos hz] at g
        obtain ⟨p, vs, rfl, h1, r1⟩ := r_tup r
        exact ⟨p, vs, rfl, h1, by rw [r1.length]; exact hz, O, st, ρ, S, _, s, r1, g⟩
      · rw [if_neg hz] at g
        exact g.elim
    case par =>
      rename_i ds
      dsimp only [gTup'] at g
      by_cases hz : ds.length = n
      · rw [if_pos hz] at g
        obtain ⟨p, vs, rfl, h1, r1⟩ := r_par r
        exact ⟨p, vs, rfl, h1, by rw [r1.length]; exact hz, O, st, ρ, S, _, s, r1, g⟩
      · rw [if_neg hz] at g
        exact g.elim
/-- x[i] = ..: an item of a list of one's own -/
def gIt (i : Nat) (mi : M D) (d : D) : MS := fun ρ S => match ρ[i]? with
  | some (.own ds) => sE mi (fun k ρ S => match k with
    | .int n => match ixN ds.length n with
      | some j => .nx (ρ.set i (.own (ds.set j d))) S
      | none => .bad
    | _ => .bad) ρ S
  | _ => .bad
theorem rg_it (hv : PE X a (tVar i)) (hb : RE X E b mb) (ha : ∀ v, assign (.Subscript a b pos) X.env v = (do
      let ov ← holding [v] (eval a X.env)
      let iv ← holding [v, ov] (eval b X.env)
      standAt pos
      holding [v, ov, iv] (setItem ov iv v)
      release [v, ov, iv] []) := by intro _; rfl) : RG X E (.Subscript a b pos) (gIt i mb) :=
  PGimp (pg_sub hv hb set_list ha) fun v σ H Q ⟨O, st, ρ, S, d, s, r, g⟩ => by
    unfold gIt at g
    split at g
    · rename_i ds hρ
      obtain ⟨w, e1, q⟩ := s.slot i _ hρ
      cases q with
      | own h rl =>
        rename_i p vs
        refine ⟨_, e1, O, st, ρ, S, s, ?_⟩
        unfold sE at g
        cases em : mb ρ S with
        | ok k S' =>
          rw [em] at g
          refine fun u H1 f sq ru => ?_
          have s1 := s.ext f sq
          dsimp only at g
          cases k <;> try (exact g.elim)
          rename_i n
          cases ru
          dsimp only at g
          split at g
          · rename_i j hj
            have hp : H1 p = some (.lst vs) := f _ _ h (s.far _ ⟨i, _, hρ, trivial, e1⟩).2
            refine ⟨p, vs, n, j, rfl, rfl, hp, by rw [rl.length]; exact hj, ?_⟩
            obtain ⟨s2, f2⟩ := s1.change hρ trivial e1 (.lst ((rl.frm f.frm).set (r.frm f.frm) j))
            exact g _ _ s2 (f.fs.trans f2 s1.sin)
          · exact g.elim
        | exc x S' => rw [em] at g; exact fun c dx H' f q r => g c dx H' (fun a o h n _ => f a o h n) q r
        | bad => rw [em] at g; exact g
    · exact g.elim
/-- a target's way on, alone -/
def sTg (m : MS) : MS := fun ρ S => match m ρ S with
  | .nx ρ' S' => .nx ρ' S'
  | .exc x S' => .exc x S'
  | _ => .bad
theorem sTg_h {K : PySem.W.Frag} {mg : Str → Option Value} {O : Addr → Prop} {st : StA} {σ : L2.St} {ρ : En} {S : DS} {H : Hp} {m k : MS} {D : Ends} (g : GoodS K mg E O st σ ρ H (sSeq (sTg m) k ρ S) D) :
    GoodS K mg E O st σ ρ H (m ρ S) { nx := tS K mg E k D, rt := fun _ _ => False } := by
  unfold sSeq sTg at g
  cases e2 : m ρ S with
  | nx ρ' S' => rw [e2] at g; exact fun σ' H' s' f' => ⟨O, st, ρ', S', s', g.from f' s'.sin⟩
  | bk ρ' S' => rw [e2] at g; exact g.elim
  | ct ρ' S' => rw [e2] at g; exact g.elim
  | rt d S' => rw [e2] at g; exact g.elim
  | exc x S' => rw [e2] at g; exact g
  | bad => rw [e2] at g; exact g
/-- target = e -/
theorem rs_asg {tg : Expr} {g : D → MS} (he : RE X E e md) (hg : RG X E tg g) (hs : swapsWithSole [tg] e pos.line X.env = pure false := by rfl) (hw : swappedStores [tg] e X.env = pure none := by rfl)
    (h1 : (assignEach [tg] X.env).map (·.2) = [assign tg X.env] := by rfl) : RS1 X E (.Assign [tg] e pos) (sE md fun d => sSeq (sTg (g d)) sNil) := PSimp (ps_asg he hg hs hw h1) fun D σ H h => by
  refine tG_mono (tS_sE h) fun v H1 h1 => ?_
  obtain ⟨O, st, ρ, S, d, s, r, gg⟩ := h1
  refine ⟨O, st, ρ, S, d, s, r, ?_⟩
  have g2 := sTg_h gg
  cases e2 : g d ρ S with
  | nx ρ' S' =>
    rw [e2] at g2
    refine fun σ' H' s' f' => ?_
    obtain ⟨O2, st2, ρ2, S2, s2, g3⟩ := g2 σ' H' s' f'
    exact g3 σ' H' s2 FrS.refl
  | bk ρ' S' => rw [e2] at g2; exact g2
  | ct ρ' S' => rw [e2] at g2; exact g2
  | rt d S' => rw [e2] at g2; exact g2
  | exc x S' => rw [e2] at g2; exact g2
  | bad => rw [e2] at g2; exact g2
end
end Pf
end

section
set_option Elab.async false
set_option linter.all false
set_option maxRecDepth 100000
namespace Pf
open PySem PySem.Spec L2
variable [TabsC]

/-! ### targets of loops -/
abbrev GP := D → En → Option En
def tTc (K : PySem.W.Frag) (mg : Str → Option Value) (vs : List Nat) (g : GP) : TG := fun v σ H Q => ∃ O st ρ S d, Sim K mg O st σ H ρ S ∧ Rep K mg st H (AV O st σ ρ) v d ∧
  ∃ ρ', g d ρ = some ρ' ∧ ∀ σ', Sim K mg O st σ' H ρ' S → (∀ a, ownA σ' ρ' a ↔ ownA σ ρ a) → wipe σ' vs = wipe σ vs → Q σ' H
abbrev GPs := List D → En → Option En
def tTcs (K : PySem.W.Frag) (mg : Str → Option Value) (vs : List Nat) (g : GPs) : TGs := fun v σ H Q => ∃ O st ρ S d, Sim K mg O st σ H ρ S ∧ Reps K mg st H (AV O st σ ρ) v d ∧
  ∃ ρ', g d ρ = some ρ' ∧ ∀ σ', Sim K mg O st σ' H ρ' S → (∀ a, ownA σ' ρ' a ↔ ownA σ ρ a) → wipe σ' vs = wipe σ vs → Q σ' H
abbrev RC (X : Cx) (vs : List Nat) (tg : Expr) (g : GP) : Prop := PG X tg (tTc X.K X.mg vs g)
abbrev RCs (X : Cx) (vs : List Nat) (tg : List Expr) (g : GPs) : Prop := PGs X tg (tTcs X.K X.mg vs g)
theorem set_comm_none {l : L2.St} {i j : Nat} {x y : Option V} (h : i ≠ j) : (List.set l i x).set j y = (List.set l j y).set i x := List.set_comm _ _ h
theorem wipe_set {x : Option V} {i : Nat} : ∀ {vs : List Nat} {σ : L2.St}, i ∈ vs → wipe (List.set σ i x) vs = wipe σ vs
  | [], _, h => by simp at h
  | v :: vs, σ, h => by
    by_cases e : i ∈ vs
    · unfold wipe
      rw [wipe_set e]
    · have ev : v = i := by
        rcases List.mem_cons.mp h with z | z
        · exact z.symm
        · exact absurd z e
      subst ev
      have aux : ∀ (ws : List Nat) (τ : L2.St), v ∉ ws → wipe (List.set τ v x) ws = List.set (wipe τ ws) v x := by
        intro ws
        induction ws with
        | nil => intro τ _; rfl
        | cons w ws ih =>
          intro τ hn
          have hw : w ≠ v := fun z => hn (by rw [z]; exact List.mem_cons_self)
          unfold wipe
          rw [ih τ (fun z => hn (List.mem_cons_of_mem _ z))]
          exact List.set_comm _ _ hw.symm
      unfold wipe
      rw [aux vs σ e, List.set_set]
section
variable {X : Cx} {E : XK} {e a b elt iter tg : Expr} {es ifs : List Expr} {pos p1 p2 : Pos} {i : Nat} {x : Str} {vs : List Nat}
def notOwn (ρ : En) (i : Nat) : Bool := match ρ[i]? with
  | some (.own _) => false
  | some (.ownd _) => false
  | some (.lckd _) => false
  | _ => true
theorem own_set_iff {σ : L2.St} {ρ : En} {v : Option V} {sd : SD} (h : notOwn ρ i = true) (n : ¬ isOwn sd) (a : Addr) : ownA (List.set σ i v) (ρ.set i sd) a ↔ ownA σ ρ a := by
  refine ⟨own_set n, fun ⟨j, t, h1, h2, h3⟩ => ?_⟩
  have e : i ≠ j := fun z => by
    subst z
    unfold notOwn at h
    rw [h1] at h
    cases t <;> first | (exact h2) | (cases h)
  exact ⟨j, t, by rw [get_set_ne e]; exact h1, h2, by rw [get_set_ne e]; exact h3⟩
def gpName (i : Nat) : GP := fun d ρ => if notOwn ρ i = true then some (ρ.set i (.val d)) else none
theorem rc_name (i : Nat) (hN : X.N.Nodup) (hi : X.N[i]? = some x) (hx : Loc X.env.scope x) (hv : i ∈ vs) (hf : X.fn x = true ∨ X.env.scope.names.lookup x = some .local := by first | exact .inl rfl | exact .inr rfl | assumption) : RC X vs (.Name x pos) (gpName i) :=
  PGimp (pg_name (i := i) hN hi hx hf) fun v σ H Q ⟨O, st, ρ, S, d, s, r, ρ', e, g⟩ => by
    unfold gpName at e
    by_cases hn : notOwn ρ i = true
    case neg => rw [if_neg hn] at e; cases e
    rw [if_pos hn] at e
    cases e
    obtain ⟨s', f⟩ := s.set (i := i) (v := some v) (sd := .val d) (fun z => z) fun _ => .val r
    exact g _ s' (fun a => own_set_iff (sd := .val d) hn (fun z => z) a) (wipe_set hv)
def gpNil : GPs
  | [], ρ => some ρ
  | _, _ => none
def gpCons (g : GP) (gs : GPs) : GPs
  | d :: ds, ρ => (g d ρ).bind (gs ds)
  | [], _ => none
theorem rcs_nil : RCs X vs [] gpNil := PGsimp pgs_nil fun v σ H Q ⟨O, st, ρ, S, d, s, r, ρ', e, g⟩ => by
  cases r with
  | nil => cases e; exact ⟨rfl, g _ s (fun a => Iff.rfl) rfl⟩
  | cons => cases e
theorem rcs_cons {g : GP} {gs : GPs} (h1 : RC X vs e g) (h2 : RCs X vs es gs) (hs : (assignEach (e :: es) X.env).map (·.2) = assign e X.env :: (assignEach es X.env).map (·.2) := by rfl) : RCs X vs (e :: es) (gpCons g gs) :=
  PGsimp (pgs_cons h1 h2 hs) fun v σ H Q ⟨O, st, ρ, S, d, s, r, ρ', e, gg⟩ => by
    cases r with
    | nil => cases e
    | cons r1 r2 =>
      unfold gpCons at e
      simp only [Option.bind_eq_some_iff] at e
      obtain ⟨ρ1, e1, e2⟩ := e
      refine ⟨_, _, rfl, O, st, ρ, S, _, s, r1, ρ1, e1, fun σ' s' ow w => ⟨O, st, ρ1, S, _, s', r2.frm ⟨fun _ _ h _ => h, fun a q => .inl (by
        rcases q with q | q | q
        · exact .inl q
        · exact .inr (.inl q)
        · exact .inr (.inr ((ow a).mp q)))⟩, ρ', e2, fun σ2 s2 ow2 w2 => gg σ2 s2 (fun a => (ow2 a).trans (ow a)) (w2.trans w)⟩⟩
def gpTup (n : Nat) (gs : GPs) : GP
  | .tup ds, ρ => if ds.length = n then gs ds ρ else none
  | .par ds, ρ => if ds.length = n then gs ds ρ else none
  | _, _ => none
theorem rc_tup {k : Nat} {gs : GPs} {n : Nat} (hc : X.calm = true) (h : RCs X vs es gs) (hn : (assignEach es X.env).length = n := by rfl) (hst : (assignEach es X.env).findIdx? (·.1) = none := by rfl) : RC X vs (.Tuple es k pos) (gpTup n gs) :=
  PGimp (pg_tup hc h hn hst) fun v σ H Q ⟨O, st, ρ, S, d, s, r, ρ', e, g⟩ => by
    cases d <;> try (cases e; done)
    case tup =>
      rename_i ds
      dsimp only [gpTup] at e
      by_cases hz : ds.length = n
      · rw [if_pos hz] at e
        obtain ⟨p, ws, rfl, h1, r1⟩ := r_tup r
        exact ⟨p, ws, rfl, h1, by rw [r1.length]; exact hz, O, st, ρ, S, _, s, r1, ρ', e, g⟩
      · rw [if_neg hz] at e
        cases e
    case par =>
      rename_i ds
      dsimp only [gpTup] at e
      by_cases hz : ds.length = n
      · rw [if_pos hz] at e
        obtain ⟨p, ws, rfl, h1, r1⟩ := r_par r
        exact ⟨p, ws, rfl, h1, by rw [r1.length]; exact hz, O, st, ρ, S, _, s, r1, ρ', e, g⟩
      · rw [if_neg hz] at e
        cases e
end

/-! ### what is walked -/
structure WD (K : PySem.W.Frag) (mg : Str → Option Value) (st : StA) (F : (Addr → Prop) → Hp → Prop) (J : It) (its : List D) : Prop where
  goes : ∀ i A H, i < its.length → F A H → J.go i H
  stops : ∀ A H, F A H → J.stop its.length H
  yld : ∀ (i : Nat) (A : Addr → Prop) (H : Hp) (x : V) (H' : Hp) (d : D), its[i]? = some d → F A H → (∀ a, A a → H a ≠ none) → J.yld i H x H' → (∀ a o, H a = some o → H' a = some o) ∧ Rep K mg st H' A x d
/-- a for: what is not one's own stays -/
def FF (O : Addr → Prop) (st : StA) (σ : L2.St) (ρ : En) (H : Hp) : (Addr → Prop) → Hp → Prop := fun A H' => Frm (AV O st σ ρ) A H H'
/-- a comprehension: all stays -/
def FC (O : Addr → Prop) (st : StA) (σ : L2.St) (ρ : En) (H : Hp) : (Addr → Prop) → Hp → Prop := fun A H' => FrE st H H' ∧ Frm (AV O st σ ρ) A H H'
def RfF (K : PySem.W.Frag) (mg : Str → Option Value) : Rf It (List D) := fun O st σ ρ H J its => WD K mg st (FF O st σ ρ H) J its
def RfC (K : PySem.W.Frag) (mg : Str → Option Value) : Rf It (List D) := fun O st σ ρ H J its => WD K mg st (FC O st σ ρ H) J its
abbrev RIf (X : Cx) (E : XK) (tg iter : Expr) (m : M (List D)) : Prop := PI X tg iter (tG X.K X.mg E (RfF X.K X.mg) m)
abbrev RIc (X : Cx) (E : XK) (tg iter : Expr) (m : M (List D)) : Prop := PI X tg iter (tG X.K X.mg E (RfC X.K X.mg) m)
theorem PIimp {X : Cx} {tg e : Expr} {t t' : TI} (h : PI X tg e t) (i : ∀ σ H Q, t' σ H Q → t σ H Q) : PI X tg e t' := ⟨fun pins s σ H Q I w => h.run pins s σ H Q I (i σ H Q w)⟩
section
variable {X : Cx} {E : XK} {e a b elt iter tg : Expr} {m ma mb : M D} {pos p1 p2 : Pos}
/-- a list or a tuple, as it comes -/
def iSeq (K : PySem.W.Frag) (te : TE) : TI := fun σ H R => te σ H fun x H1 => ∃ a, x = .ref a ∧ ((∃ xs, SqL K H1 a xs) ∧ R (Itl K a) H1 ∨ (∃ xs, SqT K H1 a xs) ∧ R (Itt K a) H1)
theorem pi_seq {te : TE} (he : PE X e te) : PI X tg e (iSeq X.K te) := ⟨fun pins s σ H R I h => thn (he.run pins s σ H _ I h) fun v s1 hv => by
  obtain ⟨x, H1, I1, rx, a, rfl, q⟩ := hv
  cases rx
  rcases q with ⟨⟨xs, hq⟩, q⟩ | ⟨⟨xs, hq⟩, q⟩
  · obtain ⟨us, _, pl, _⟩ := I1.list hq
    exact wpAny_pyIter_list pl.isList ⟨_, [s1.heap.objs.size], _, _, H1, rfl, I1.kept (t' := s1.toks) (fun b o z => Heap.get?_push_of_some _ z), turn_list a _, ⟨_, Heap.get?_push_size _ rfl, rfl, rfl⟩, (fun b hb => by
      rw [show b = s1.heap.objs.size by simpa using hb]
      exact I1.fpOk (Nat.le_refl _) (I1.hok.fresh (Nat.le_refl _))), q⟩
  · obtain ⟨us, _, pl, _⟩ := I1.tuple hq
    exact wpAny_pyIter_tuple (show s1.heap.IsTuple a us.toArray from pl) ⟨_, [s1.heap.objs.size], _, _, H1, rfl, I1.kept (t' := s1.toks) (fun b o z => Heap.get?_push_of_some _ z), turn_tuple a _, ⟨_, Heap.get?_push_size _ rfl, rfl, rfl⟩, (fun b hb => by
      rw [show b = s1.heap.objs.size by simpa using hb]
      exact I1.fpOk (Nat.le_refl _) (I1.hok.fresh (Nat.le_refl _))), q⟩⟩
theorem wd_l {K : PySem.W.Frag} {mg : Str → Option Value} {st : StA} {F : (Addr → Prop) → Hp → Prop} {a : Addr} {vs : List V} {ds : List D} (h : ∀ A H, F A H → SqL K H a vs ∧ Reps K mg st H A vs ds) : WD K mg st F (Itl K a) ds where
  goes := fun i A H hi f => walk_list.goes i H (by rw [(h A H f).2.length]; exact hi) (h A H f).1
  stops := fun A H f => by rw [← (h A H f).2.length]; exact walk_list.stops H (h A H f).1
  yld := fun i A H x H' d hd f _ y => by
    obtain ⟨h1, h2⟩ := h A H f
    have hi : i < vs.length := by rw [h2.length]; exact (List.getElem?_eq_some_iff.mp hd).1
    obtain ⟨rfl, e⟩ := walk_list.yields i H x H' hi h1 y
    obtain ⟨v, e1, r⟩ := h2.get i hd
    rw [e] at e1; cases e1
    exact ⟨fun _ _ z => z, r⟩
theorem wd_t {K : PySem.W.Frag} {mg : Str → Option Value} {st : StA} {F : (Addr → Prop) → Hp → Prop} {a : Addr} {vs : List V} {ds : List D} (h : ∀ A H, F A H → SqT K H a vs ∧ Reps K mg st H A vs ds) : WD K mg st F (Itt K a) ds where
  goes := fun i A H hi f => walk_tup.goes i H (by rw [(h A H f).2.length]; exact hi) (h A H f).1
  stops := fun A H f => by rw [← (h A H f).2.length]; exact walk_tup.stops H (h A H f).1
  yld := fun i A H x H' d hd f _ y => by
    obtain ⟨h1, h2⟩ := h A H f
    have hi : i < vs.length := by rw [h2.length]; exact (List.getElem?_eq_some_iff.mp hd).1
    obtain ⟨rfl, e⟩ := walk_tup.yields i H x H' hi h1 y
    obtain ⟨v, e1, r⟩ := h2.get i hd
    rw [e] at e1; cases e1
    exact ⟨fun _ _ z => z, r⟩
theorem SqT.frm {K : PySem.W.Frag} {mg : Str → Option Value} {st : StA} {A A' : Addr → Prop} {H H' : Hp} {v : V} {ds : List D} (r : Rep K mg st H A v (.tup ds)) : ∃ a vs, v = .ref a ∧ ∀ A' H', Frm A A' H H' → SqT K H' a vs ∧ Reps K mg st H' A' vs ds := by
  cases r with
  | tup n h o r => exact ⟨_, _, rfl, fun A' H' f => ⟨SqT.ofF (f.keep _ _ h n), r.frm f⟩⟩
  | tupK h o r => exact ⟨_, _, rfl, fun A' H' f => ⟨SqT.ofK h, r.frm f⟩⟩
/-- for x in e -/
theorem ri_f (he : RE X E e m) : RIf X E tg e (bnd m asL) := PIimp (pi_seq he) fun σ H Q h => by
  refine tG_mono (tG_bnd (R1 := RfD X.K X.mg) h) fun x H1 h1 => ?_
  obtain ⟨O, st, ρ, S, d, s, r, g⟩ := h1
  cases d <;> try (exact g.elim)
  · obtain ⟨a, vs, rfl, hh⟩ := SqT.frm (A' := AV O st σ ρ) (H' := H1) r
    exact ⟨a, rfl, .inr ⟨⟨vs, (hh _ _ Frm.refl).1⟩, g _ _ FrE.refl s.state (wd_t fun A H f => hh A H f)⟩⟩
  · cases r with
    | lst n h r => exact ⟨_, rfl, .inl ⟨⟨_, SqL.of h⟩, g _ _ FrE.refl s.state (wd_l fun A H f => ⟨SqL.of (f.keep _ _ h n), r.frm f⟩)⟩⟩
/-- [.. for x in e] -/
theorem ri_c (he : RQ X E e m) : RIc X E tg e (bnd m asL) := PIimp (pi_seq he) fun σ H Q h => by
  refine tG_mono (tG_bnd (R1 := RfQ X.K X.mg) h) fun x H1 h1 => ?_
  obtain ⟨O, st, ρ, S, d, s, r, g⟩ := h1
  cases d <;> try (exact g.elim)
  · rcases r with r | ⟨_, _, _, _, e, _⟩
    · obtain ⟨a, vs, rfl, hh⟩ := SqT.frm (A' := AV O st σ ρ) (H' := H1) r
      exact ⟨a, rfl, .inr ⟨⟨vs, (hh _ _ Frm.refl).1⟩, g _ _ FrE.refl s.state (wd_t fun A H f => hh A H f.2)⟩⟩
    · cases e
  · obtain ⟨p, vs, rfl, h1, n, r1⟩ := q_lst r
    exact ⟨p, rfl, .inl ⟨⟨vs, SqL.of h1⟩, g _ _ FrE.refl s.state (wd_l fun A H f => ⟨SqL.of (f.1 _ _ h1 n), r1.frm f.2⟩)⟩⟩
theorem rif_c {m : M (List D)} (h : RIf X E tg iter m) : RIc X E tg iter m := PIimp h fun σ H Q ⟨O, st, ρ, S, s, g⟩ => ⟨O, st, ρ, S, s, by
  cases e : m ρ S with
  | ok its S' => rw [e] at g; exact fun J H' f q w => g J H' f q ⟨fun i A H hi ff => w.goes i A H hi ff.2, fun A H ff => w.stops A H ff.2, fun i A H x H2 d hd ff => w.yld i A H x H2 d hd ff.2⟩
  | exc x S' => rw [e] at g; exact g
  | bad => rw [e] at g; exact g⟩
/-- range -/
def rngD (lo : Int) (n : Nat) : List D := (List.range n).map fun i => .int (lo + (i : Nat))
def big (i : Int) : Bool := decide (-(2 ^ 62) ≤ i) && decide (i < 2 ^ 62)
def mRng1 (m : M D) : M (List D) := bnd m fun d => match d with
  | .int j => if big j = true then ret (rngD 0 j.toNat) else bad
  | _ => bad
theorem big_iff {i : Int} : big i = true ↔ -(2 ^ 62) ≤ i ∧ i < 2 ^ 62 := by simp [big]
theorem wd_rng {K : PySem.W.Frag} {mg : Str → Option Value} {st : StA} {F : (Addr → Prop) → Hp → Prop} {lo : Int} {n : Nat} : WD K mg st F (Itr lo n) (rngD lo n) where
  goes := fun i A H hi f => (walk_range (lo := lo) (n := n)).goes i H (by simpa [rngD] using hi) trivial
  stops := fun A H f => by
    have := (walk_range (lo := lo) (n := n)).stops H trivial
    simpa [rngD] using this
  yld := fun i A H x H' d hd f _ y => by
    have hi : i < n := by
      have := (List.getElem?_eq_some_iff.mp hd).1
      simpa [rngD] using this
    obtain ⟨rfl, rfl⟩ := (walk_range (lo := lo) (n := n)).yields i H x H' hi trivial y
    have e : d = .int (lo + (i : Nat)) := by
      unfold rngD at hd
      rw [List.getElem?_map, List.getElem?_range hi] at hd
      exact (Option.some.inj hd).symm
    subst e
    exact ⟨fun _ _ z => z, .int _⟩
theorem ri_rng1 (hg : Gl X "range") (hm : X.mg "range" = none) (ha : RQ X E a m) (hs : starEach [a] X.env = [(false, eval a X.env)] := by rfl) : RIf X E tg (.Call (.Name "range" p1) [a] [] pos) (mRng1 m) :=
  PIimp (pi_range1 hg hm (pa_cons ha pa_nil (by rw [hs]; rfl)) hs) fun σ H Q h => by
    refine tG_mono (tG_bnd (R1 := RfQ X.K X.mg) h) fun x H1 h1 => ?_
    obtain ⟨O, st, ρ, S, d, s, r, g⟩ := h1
    cases d <;> try (exact g.elim)
    rename_i j
    cases q_int r
    dsimp only at g
    by_cases hb : big j = true
    · rw [if_pos hb] at g
      obtain ⟨b1, b2⟩ := big_iff.mp hb
      exact ⟨j, rfl, b1, b2, g _ _ FrE.refl s.state wd_rng⟩
    · rw [if_neg hb] at g
      exact g.elim
def mRng2 (ma mb : M D) : M (List D) := bn2 ma mb fun x y => match x, y with
  | .int i, .int j => if (big i && big j) = true then ret (rngD i (j - i).toNat) else bad
  | _, _ => bad
theorem ri_rng2 (hg : Gl X "range") (hm : X.mg "range" = none) (ha : RQ X E a ma) (hb : RQ X E b mb) (hs : starEach [a, b] X.env = [(false, eval a X.env), (false, eval b X.env)] := by rfl) (hs2 : starEach [b] X.env = [(false, eval b X.env)] := by rfl) :
    RIf X E tg (.Call (.Name "range" p1) [a, b] [] pos) (mRng2 ma mb) :=
  PIimp (pi_range2 hg hm (pa_cons ha (pa_cons hb pa_nil (by rw [hs2]; rfl)) (by rw [hs, hs2])) hs hs2) fun σ H Q h => by
    refine tG_mono (tG_bn2 RfQ.stable h) fun x H1 h1 => tG_mono h1 fun y H2 h2 => ?_
    obtain ⟨O, st, ρ, S, d1, d2, s, r1, r2, g⟩ := h2
    cases d1 <;> try (exact g.elim)
    cases d2 <;> try (exact g.elim)
    rename_i i j
    cases q_int r1
    cases q_int r2
    dsimp only at g
    by_cases hb : (big i && big j) = true
    · rw [if_pos hb] at g
      obtain ⟨h1, h2⟩ := Bool.and_eq_true_iff.mp hb
      obtain ⟨b1, b2⟩ := big_iff.mp h1
      obtain ⟨b3, b4⟩ := big_iff.mp h2
      exact ⟨i, j, rfl, ⟨b1, b2, b3, b4⟩, g _ _ FrE.refl s.state wd_rng⟩
    · rw [if_neg hb] at g
      exact g.elim
end
end Pf
end

section
set_option Elab.async false
set_option linter.all false
set_option maxRecDepth 100000
namespace Pf
open PySem PySem.Spec L2
variable [TabsC]

/-! ### for -/
def forLoop (g : GP) (body : MS) : List D → MS
  | [], ρ, S => .nx ρ S
  | x :: xs, ρ, S => match g x ρ with
    | none => .bad
    | some ρ1 => match body ρ1 S with
      | .nx ρ' S' => forLoop g body xs ρ' S'
      | .ct ρ' S' => forLoop g body xs ρ' S'
      | .bk ρ' S' => .nx ρ' S'
      | .rt d S' => .rt d S'
      | .exc x S' => .exc x S'
      | .bad => .bad
def sFor (mi : M (List D)) (g : GP) (body : MS) : MS := sE mi fun its => forLoop g body its
theorem StOk.keep {st : StA} {H H' : Hp} {S : DS} (h : StOk st H S) (k : ∀ a o, H a = some o → H' a = some o) : StOk st H' S :=
  h.stay (fun a o _ e => k a o e) fun a φ e => k _ _ e
section
variable {X : Cx} {E : XK} {e a b elt iter tg : Expr} {sts : List Stmt} {m ma mb : M D} {ms : M (List D)} {mb' : MS} {pos p1 p2 : Pos} {vs : List Nat} {g : GP}
theorem rs_for (hp : PassesOwn (model X.prog X.w) X.A X.env X.xe) (hc : X.calm = true) (hi : RIf X E tg iter ms) (hg : RC X vs tg g) (hb : RSs X E sts mb') (hs : ∀ x, foldedSetIterable iter X.env x = pure x := by intro _; rfl) :
    RS1 X E (.For tg iter sts [] pos) (sFor ms g mb') := PSimp (ps_for hp hc hi hg hb hs) fun D σ H h => by
  obtain ⟨O, st, ρ, S, s0, g0⟩ := h
  refine ⟨O, st, ρ, S, s0, ?_⟩
  unfold sFor sE at g0
  cases em : ms ρ S with
  | exc x S' => rw [em] at g0; exact fun c dx H' f q r => g0 c dx H' (fun a o h n _ => f a o h n) q r
  | bad => rw [em] at g0; exact g0
  | ok its S1 =>
  rw [em] at g0
  refine fun J H1 f1 q1 w1 => ?_
  have s1 := s0.ext f1 q1
  have g1 := g0.from f1.fs q1.sin
  dsimp only at g1
  refine ⟨fun i m σ2 H2 => m = its.length - i ∧ i ≤ its.length ∧ ∃ ρ2 S2, Sim X.K X.mg O st σ2 H2 ρ2 S2 ∧ FrS st σ ρ H1 σ2 ρ2 H2 ∧ GoodS X.K X.mg E O st σ2 ρ2 H2 (forLoop g mb' (its.drop i) ρ2 S2) D, ⟨its.length, by simp, Nat.zero_le _, ρ, S1, s1, FrS.refl, g1⟩, ?_⟩
  rintro i m σ2 H2 ⟨rfl, hi', ρ2, S2, s2, f2, g2⟩
  by_cases hlt : i < its.length
  · refine .inr ⟨w1.goes i _ H2 hlt f2.frm, fun σ3 H3 => ∃ ρ3 S3, Sim X.K X.mg O st σ3 H3 ρ3 S3 ∧ FrS st σ ρ H1 σ3 ρ3 H3 ∧ GoodS X.K X.mg E O st σ3 ρ3 H3 (forLoop g mb' (its.drop (i + 1)) ρ3 S3) D, fun σ' H' q => ⟨_, by omega, rfl, hlt, q⟩, fun x H3 y => ?_⟩
    have hd : its[i]? = some its[i] := List.getElem?_eq_getElem hlt
    obtain ⟨k3, r3⟩ := w1.yld i _ H2 x H3 _ hd f2.frm (fun a q => s2.av q) y
    have f3 : FrE st H2 H3 := fun a o h _ => k3 a o h
    have s3 := s2.ext f3 (s2.state.keep k3)
    rw [List.drop_eq_getElem_cons hlt] at g2
    have g3 := g2.from f3.fs s3.sin
    unfold forLoop at g3
    refine ⟨O, st, ρ2, S2, _, s3, r3, ?_⟩
    cases eg : g its[i] ρ2 with
    | none => rw [eg] at g3; exact g3.elim
    | some ρ3 =>
      rw [eg] at g3
      refine ⟨ρ3, rfl, fun σ4 s4 ow4 _ => ?_⟩
      have f4 : FrS st σ2 ρ2 H3 σ4 ρ3 H3 := ⟨fun _ _ h _ _ => h, fun a q => .inl ((ow4 a).mp q)⟩
      have f04 : FrS st σ ρ H1 σ4 ρ3 H3 := (f2.trans f3.fs s2.sin).trans f4 s3.sin
      have g4 := g3.from f4 s4.sin
      refine ⟨O, st, ρ3, S2, s4, ?_⟩
      dsimp only at g4
      cases eb : mb' ρ3 S2 with
      | nx ρ5 S5 => rw [eb] at g4; exact fun σ5 H5 s5 f5 => ⟨ρ5, S5, s5, f04.trans f5 s4.sin, g4.from f5 s5.sin⟩
      | ct ρ5 S5 => rw [eb] at g4; exact fun σ5 H5 s5 f5 => ⟨ρ5, S5, s5, f04.trans f5 s4.sin, g4.from f5 s5.sin⟩
      | bk ρ5 S5 => rw [eb] at g4; exact g4
      | rt d S5 => rw [eb] at g4; exact g4
      | exc x S5 => rw [eb] at g4; exact g4
      | bad => rw [eb] at g4; exact g4
  · have e : i = its.length := by omega
    subst e
    rw [List.drop_length] at g2
    exact .inl ⟨w1.stops _ H2 f2.frm, g2 _ _ s2 FrS.refl⟩

/-! ### while -/
def whileN (t : M Bool) (body : MS) : Nat → MS
  | 0, _, _ => .bad
  | n + 1, ρ, S => match t ρ S with
    | .exc x S' => .exc x S'
    | .bad => .bad
    | .ok false S' => .nx ρ S'
    | .ok true S' => match body ρ S' with
      | .nx ρ' S' => whileN t body n ρ' S'
      | .ct ρ' S' => whileN t body n ρ' S'
      | .bk ρ' S' => .nx ρ' S'
      | .rt d S' => .rt d S'
      | .exc x S' => .exc x S'
      | .bad => .bad
def sWhile (n : Nat) (t : M Bool) (body : MS) : MS := whileN t body n
theorem rs_while (n : Nat) {mt : M Bool} (hp : PassesOwn (model X.prog X.w) X.A X.env X.xe) (ht : RT X E e mt) (hb : RSs X E sts mb') : RS1 X E (.While e sts [] pos) (sWhile n mt mb') := PSimp (ps_while hp ht hb) fun D σ H h => by
  obtain ⟨O, st, ρ, S, s0, g0⟩ := h
  refine ⟨fun m σ2 H2 => ∃ ρ2 S2, Sim X.K X.mg O st σ2 H2 ρ2 S2 ∧ GoodS X.K X.mg E O st σ2 ρ2 H2 (whileN mt mb' m ρ2 S2) D, ⟨n, ρ, S, s0, g0⟩, ?_⟩
  rintro m σ2 H2 ⟨ρ2, S2, s2, g2⟩
  cases m with
  | zero => exact g2.elim
  | succ m =>
    refine ⟨O, st, ρ2, S2, s2, ?_⟩
    unfold whileN at g2
    cases et : mt ρ2 S2 with
    | exc x S' => rw [et] at g2; exact fun c dx H' f q r => g2 c dx H' (fun a o h n _ => f a o h n) q r
    | bad => rw [et] at g2; exact g2
    | ok k S3 =>
      rw [et] at g2
      rintro k' H3 f3 q3 rfl
      have s3 := s2.ext f3 q3
      have g3 := g2.from f3.fs s3.sin
      cases k' with
      | false =>
        rw [if_neg Bool.false_ne_true]
        exact g3 _ _ s3 FrS.refl
      | true =>
        rw [if_pos rfl]
        dsimp only at g3
        refine ⟨fun σ4 H4 => ∃ ρ4 S4, Sim X.K X.mg O st σ4 H4 ρ4 S4 ∧ GoodS X.K X.mg E O st σ4 ρ4 H4 (whileN mt mb' m ρ4 S4) D, fun σ' H' q => ⟨m, Nat.lt_succ_self m, q⟩, O, st, ρ2, S3, s3, ?_⟩
        cases eb : mb' ρ2 S3 with
        | nx ρ5 S5 => rw [eb] at g3; exact fun σ5 H5 s5 f5 => ⟨ρ5, S5, s5, g3.from f5 s5.sin⟩
        | ct ρ5 S5 => rw [eb] at g3; exact fun σ5 H5 s5 f5 => ⟨ρ5, S5, s5, g3.from f5 s5.sin⟩
        | bk ρ5 S5 => rw [eb] at g3; exact g3
        | rt d S5 => rw [eb] at g3; exact g3
        | exc x S5 => rw [eb] at g3; exact g3
        | bad => rw [eb] at g3; exact g3
end

/-! ### comprehensions -/
def wipeE (ρ : En) : List Nat → En
  | [] => ρ
  | v :: vs => (wipeE ρ vs).set v .no
theorem notOwn_wipe {ρ : En} {i : Nat} (h : notOwn ρ i = true) : ∀ vs : List Nat, notOwn (wipeE ρ vs) i = true
  | [] => h
  | v :: vs => by
    have ih := notOwn_wipe h vs
    unfold wipeE
    unfold notOwn at ih ⊢
    by_cases e : v = i
    · subst e
      rw [List.getElem?_set]
      by_cases hl : v < (wipeE ρ vs).length
      · rw [if_pos rfl, if_pos hl]
      · rw [if_pos rfl, if_neg hl]
    · rw [List.getElem?_set_ne e]; exact ih
theorem Sim.wipe {K : PySem.W.Frag} {mg : Str → Option Value} {O : Addr → Prop} {st : StA} {σ : L2.St} {ρ : En} {S : DS} {H : Hp} (s : Sim K mg O st σ H ρ S) : ∀ vs : List Nat, (∀ v ∈ vs, notOwn ρ v = true) →
    Sim K mg O st (L2.wipe σ vs) H (wipeE ρ vs) S ∧ ∀ a, ownA (L2.wipe σ vs) (wipeE ρ vs) a ↔ ownA σ ρ a
  | [], _ => ⟨s, fun _ => Iff.rfl⟩
  | v :: vs, hv => by
    obtain ⟨s1, o1⟩ := Sim.wipe s vs fun u hu => hv u (List.mem_cons_of_mem _ hu)
    obtain ⟨s2, f2⟩ := s1.set (i := v) (v := none) (sd := .no) (fun z => z) fun _ => .no
    exact ⟨s2, fun a => (own_set_iff (sd := .no) (notOwn_wipe (hv v List.mem_cons_self) vs) (fun z => z) a).trans (o1 a)⟩
def lcLoop (vs : List Nat) (g : GP) (tt : M Bool) (te : M D) : List D → M (List D)
  | [], _, S => .ok [] S
  | x :: xs, ρ, S => match g x (wipeE ρ vs) with
    | none => .bad
    | some ρ1 => match tt ρ1 S with
      | .ok true S1 => match te ρ1 S1 with
        | .ok d S2 => match lcLoop vs g tt te xs ρ S2 with
          | .ok ds S3 => .ok (d :: ds) S3
          | _ => .bad
        | _ => .bad
      | .ok false S1 => lcLoop vs g tt te xs ρ S1
      | _ => .bad
theorem lcLoop_noexc {vs : List Nat} {g : GP} {tt : M Bool} {te : M D} {ρ : En} {x : XV} {S' : DS} : ∀ (l : List D) (S : DS), lcLoop vs g tt te l ρ S ≠ .exc x S'
  | [], _, h => by cases h
  | y :: l, S, h => by
    unfold lcLoop at h
    repeat' split at h
    all_goals first | (cases h; done) | exact lcLoop_noexc l _ h
theorem wipe_sub {ws : List Nat} : ∀ (vs : List Nat) (σ : L2.St), (∀ v ∈ vs, v ∈ ws) → L2.wipe (L2.wipe σ vs) ws = L2.wipe σ ws
  | [], _, _ => rfl
  | v :: vs, σ, h => by
    show L2.wipe (List.set (L2.wipe σ vs) v none) ws = _
    rw [wipe_set (h v List.mem_cons_self)]
    exact wipe_sub vs σ fun u hu => h u (List.mem_cons_of_mem _ hu)
def mLc (mi : M (List D)) (vs : List Nat) (g : GP) (tt : M Bool) (te : M D) : M (List D) := bnd mi fun its ρ S => if its.length ≤ 16777216 ∧ vs.all (notOwn ρ) = true then lcLoop vs g tt te its ρ S else .bad
section
variable {K : PySem.W.Frag} {mg : Str → Option Value} {E : XK}
abbrev EN : XK := fun _ _ _ => False
theorem lc_read {ms : M (List D)} {vs : List Nat} {g : GP} {mt : M Bool} {me : M D} {σ : L2.St} {H : Hp} {Q : VK} (h : tN K mg E (mLc ms vs g mt me) σ H Q) :
    tLc (tG K mg E (RfC K mg) ms) (tTc K mg vs g) (tG K mg EN RfB mt) (tG K mg EN (RfD K mg) me) vs σ H Q := by
  obtain ⟨O, st, ρ, S, s0, g0⟩ := h
  refine ⟨O, st, ρ, S, s0, ?_⟩
  unfold mLc bnd at g0
  cases em : ms ρ S with
  | exc x S' => rw [em] at g0; exact g0
  | bad => rw [em] at g0; exact g0
  | ok its S1 =>
  rw [em] at g0
  dsimp only at g0
  by_cases hz : its.length ≤ 16777216 ∧ vs.all (notOwn ρ) = true
  case neg => rw [if_neg hz] at g0; exact g0.elim
  rw [if_pos hz] at g0
  obtain ⟨hz, hvs⟩ := hz
  have hvs : ∀ v ∈ vs, notOwn ρ v = true := fun v hv => List.all_eq_true.mp hvs v hv
  refine fun J H1 f1 q1 w1 D hD => ?_
  have s1 := s0.ext f1 q1
  cases el : lcLoop vs g mt me its ρ S1 with
  | exc x S' => exact absurd el (lcLoop_noexc _ _)
  | bad => rw [el] at g0; exact g0.elim
  | ok total Sf =>
  rw [el] at g0
  have nstD : ¬ stA st D := fun q => q1.sin D q hD
  -- the rest of the items, what is made so far
  refine ⟨fun i m H2 => m = its.length - i ∧ i ≤ its.length ∧ ∃ S2 acc ads H' rest, FrE st H1 H' ∧ StOk st H' S2 ∧ H' D = none ∧ H2 = upd H' D (.lst acc) ∧ Reps K mg st H' (AV O st σ ρ) acc ads ∧ acc.length ≤ i ∧
      lcLoop vs g mt me (its.drop i) ρ S2 = .ok rest Sf ∧ total = ads ++ rest, ⟨its.length, by simp, Nat.zero_le _, S1, [], [], H1, total, FrE.refl, q1, hD, rfl, .nil, Nat.le_refl _, el, rfl⟩, ?_⟩
  rintro i m H2 ⟨rfl, hi, S2, acc, ads, H', rest, fE, qE, hD', rfl, ra, la, er, et⟩
  have s' := s1.ext fE qE
  have sR := s'.reserve hD' (.lst acc) (fun φ z => by cases z)
  obtain ⟨sW, oW⟩ := sR.wipe vs hvs
  have f12 : FrE st H1 (upd H' D (.lst acc)) := fE.trans (FrE.laid hD')
  have avW : ∀ a, AV (plusA O D) st (L2.wipe σ vs) (wipeE ρ vs) a → AV O st σ ρ a ∨ H1 a = none := fun a q => by
    rcases q with (q | q) | q | q
    · exact .inl (.inl q)
    · rw [q]; exact .inr hD
    · exact .inl (.inr (.inl q))
    · exact .inl (.inr (.inr ((oW a).mp q)))
  have fc : FC O st σ ρ H1 (AV (plusA O D) st (L2.wipe σ vs) (wipeE ρ vs)) (upd H' D (.lst acc)) := ⟨f12, fun a o h n => f12 a o h fun z => n (.inr (.inl z)), avW⟩
  by_cases hlt : i < its.length
  case neg =>
    have e : i = its.length := by omega
    subst e
    rw [List.drop_length] at er
    cases er
    rw [List.append_nil] at et
    subst et
    exact .inl ⟨w1.stops _ _ fc, g0 H' D acc (f1.trans fE) qE hD' ra⟩
  refine .inr ⟨w1.goes i _ _ hlt fc, fun H5 => i + 1 ≤ its.length ∧ ∃ S2 acc ads H' rest, FrE st H1 H' ∧ StOk st H' S2 ∧ H' D = none ∧ H5 = upd H' D (.lst acc) ∧ Reps K mg st H' (AV O st σ ρ) acc ads ∧ acc.length ≤ i + 1 ∧
      lcLoop vs g mt me (its.drop (i + 1)) ρ S2 = .ok rest Sf ∧ total = ads ++ rest, fun H5 q => ⟨_, by omega, rfl, q⟩, fun x H3 y => ?_⟩
  have hd : its[i]? = some its[i] := List.getElem?_eq_getElem hlt
  obtain ⟨k3, r3⟩ := w1.yld i _ _ x H3 _ hd fc (fun a q => sW.av q) y
  have f3 : FrE st (upd H' D (.lst acc)) H3 := fun a o h _ => k3 a o h
  have s3 := sW.ext f3 (sW.state.keep k3)
  rw [List.drop_eq_getElem_cons hlt] at er
  unfold lcLoop at er
  refine ⟨plusA O D, st, wipeE ρ vs, S2, _, s3, r3, ?_⟩
  cases eg : g its[i] (wipeE ρ vs) with
  | none => rw [eg] at er; cases er
  | some ρ1 =>
  rw [eg] at er
  refine ⟨ρ1, rfl, fun σ4 s4 ow4 w4 => ⟨w4.trans (wipe_sub vs σ fun _ z => z), plusA O D, st, ρ1, S2, s4, ?_⟩⟩
  dsimp only at er
  -- behind the turn: the heap without the new list
  have fin : ∀ (H5 : Hp) (S5 : DS) (acc' : List V) (ads' : List Pf.D) (rest' : List Pf.D), FrE st H3 H5 → StOk st H5 S5 → Reps K mg st (fun b => if b = D then none else H5 b) (AV O st σ ρ) acc' ads' → acc'.length ≤ i + 1 →
      lcLoop vs g mt me (its.drop (i + 1)) ρ S5 = .ok rest' Sf → total = ads' ++ rest' →
      (i + 1 ≤ its.length ∧ ∃ S2 acc ads H' rest, FrE st H1 H' ∧ StOk st H' S2 ∧ H' D = none ∧ upd H5 D (.lst acc') = upd H' D (.lst acc) ∧ Reps K mg st H' (AV O st σ ρ) acc ads ∧ acc.length ≤ i + 1 ∧ lcLoop vs g mt me (its.drop (i + 1)) ρ S2 = .ok rest Sf ∧ total = ads ++ rest) := fun H5 S5 acc' ads' rest' f5 q5 r5 l5 e5 t5 => by
    refine ⟨hlt, S5, acc', ads', fun b => if b = D then none else H5 b, rest', fun a o h n => ?_, ?_, by simp, ?_, r5, l5, e5, t5⟩
    · have na : a ≠ D := ne_of_none h hD
      show (if a = D then none else H5 a) = some o
      rw [if_neg na]
      exact f5 a o (f3 a o (f12 a o h n) n) n
    · refine q5.stay (fun a o q e => ?_) fun a φ e => ?_
      · show (if a = D then none else H5 a) = _
        rw [if_neg (fun z => nstD (by rw [← z]; exact q))]; exact e
      · show (if a = D then none else H5 a) = _
        rw [if_neg (fun z => by rw [z, f5 _ _ (k3 _ _ upd_same) nstD] at e; cases e)]; exact e
    · funext b
      unfold upd
      by_cases hb : b = D
      · rw [if_pos hb, if_pos hb]
      · rw [if_neg hb, if_neg hb]
        show H5 b = (if b = D then none else H5 b)
        rw [if_neg hb]
  have frA : ∀ H5, FrE st H3 H5 → Reps K mg st (fun b => if b = D then none else H5 b) (AV O st σ ρ) acc ads := fun H5 f5 => ra.frm ⟨fun a o h n => by
    have na : a ≠ D := ne_of_none h hD'
    have ns : ¬ stA st a := fun z => n (.inr (.inl z))
    show (if a = D then none else H5 a) = some o
    rw [if_neg na]
    exact f5 a o (f3 a o (by rw [upd_ne na]; exact h) ns) ns, fun a q => .inl q⟩
  cases em2 : mt ρ1 S2 with
  | exc x S' => rw [em2] at er; cases er
  | bad => rw [em2] at er; cases er
  | ok b S3 =>
  rw [em2] at er
  rintro b' H4 f4 q4 rfl
  cases b' with
  | false =>
    rw [if_neg Bool.false_ne_true]
    have hD4 : H4 D = some (.lst acc) := f4 _ _ (f3 _ _ upd_same nstD) nstD
    have e : H4 = upd H4 D (.lst acc) := by
      funext b
      unfold upd
      by_cases hb : b = D
      · rw [if_pos hb, hb]; exact hD4
      · rw [if_neg hb]
    rw [e]
    exact fin H4 S3 acc ads rest f4 q4 (frA H4 f4) (by omega) er et
  | true =>
    rw [if_pos rfl]
    dsimp only at er
    refine ⟨plusA O D, st, ρ1, S3, s4.ext f4 q4, ?_⟩
    cases em3 : me ρ1 S3 with
    | exc x S' => rw [em3] at er; cases er
    | bad => rw [em3] at er; cases er
    | ok d S4 =>
    rw [em3] at er
    dsimp only at er
    refine fun y H5 f5 q5 r5 => ?_
    have f35 := f4.trans f5
    have hD5 : H5 D = some (.lst acc) := f35 _ _ (f3 _ _ upd_same nstD) nstD
    refine ⟨acc, hD5, by rw [line_eq]; omega, ?_⟩
    cases em4 : lcLoop vs g mt me (its.drop (i + 1)) ρ S4 with
    | exc x S' => rw [em4] at er; cases er
    | bad => rw [em4] at er; cases er
    | ok ds S6 =>
    rw [em4] at er
    cases er
    refine fin H5 S4 (acc ++ [y]) (ads ++ [d]) ds f35 q5 ((frA H5 f35).append (.cons (r5.frm ⟨fun a o h n => ?_, fun a q => .inl ?_⟩) .nil)) (by simp; omega) em4 (by rw [et, List.append_assoc]; rfl)
    · show (if a = D then none else H5 a) = some o
      rw [if_neg (fun z => n (.inl (.inr z)))]
      exact h
    · rcases q with q | q | q
      · exact .inl (.inl q)
      · exact .inr (.inl q)
      · exact .inr (.inr ((ow4 a).mpr ((oW a).mpr q)))
end
end Pf
end

section
set_option Elab.async false
set_option linter.all false
set_option maxRecDepth 100000
namespace Pf
open PySem PySem.Spec L2
variable [TabsC]

/-! ### where one stands -/
structure Ctx (X : Cx) (E : XK) (k : Nat) : Prop where
  room : Room k X.A
  pass : Passes (L2.CX X.prog X.w) X E
  calm : X.calm = true
theorem Ctx.blk {X : Cx} {E : XK} {k : Nat} (c : Ctx X E k) {s : Shared} {H : Hp} {scope : Scope} {cenv : Env} {fp : List Addr} : Ctx (X.blk s H scope cenv fp) EN k := ⟨c.room, passL, c.calm⟩
theorem Ctx.u {X : Cx} {E : XK} {k : Nat} (c : Ctx X E k) : X.A.units + 65 < cLine := by
  have := c.room.un
  omega
theorem Ctx.u64 {X : Cx} {E : XK} {k : Nat} (c : Ctx X E k) : X.A.units + 64 < cLine := c.room.units
theorem Ctx.u0 {X : Cx} {E : XK} {k : Nat} (c : Ctx X E k) : X.A.units < cLine := c.room.units0

/-! ### comprehensions -/
abbrev RTs (X : Cx) (E : XK) (ifs : List Expr) (m : M Bool) : Prop := PTs X ifs (tG X.K X.mg E RfB m)
section
variable {X : Cx} {E : XK} {e a b elt iter tg : Expr} {es ifs : List Expr} {m ma mb me : M D} {ms : M (List D)} {mt : M Bool} {g : GP} {scope : Scope} {own : List (Str × Nat)} {pos p1 p2 spos : Pos} {i : Nat} {x y : Str}
theorem rts_nil : RTs X E [] (ret true) := ⟨fun pins s σ H Q I h => pts_nil.run pins s σ H Q I (tG_ret (E := E) (v := true) (fun _ _ _ _ _ => rfl) h)⟩
theorem rts_one (h : RT X E e mt) : RTs X E [e] mt := pts_one h
theorem rn_lc (hc : X.calm = true) (hN : X.N.Nodup) (hi : RIc X E tg iter ms) (ok : BlkOk X.N X.env.scope scope own)
    (hg : ∀ (s : Shared) (H : Hp) (C : Addr) (cl : List (Str × Addr)) (fp : List Addr), RC (X.blk s H scope (compEnvC scope cl C X.env) fp) (own.map (·.2)) tg g)
    (ht : ∀ (s : Shared) (H : Hp) (C : Addr) (cl : List (Str × Addr)) (fp : List Addr), RTs (X.blk s H scope (compEnvC scope cl C X.env) fp) EN ifs mt)
    (he : ∀ (s : Shared) (H : Hp) (C : Addr) (cl : List (Str × Addr)) (fp : List Addr), RE (X.blk s H scope (compEnvC scope cl C X.env) fp) EN elt me)
    (hs : ∀ x, foldedSetIterable iter X.env x = pure x := by intro _; rfl) : RN X E (.ListComp elt [⟨tg, iter, ifs, 0⟩] scope pos) (mLc ms (own.map (·.2)) g mt me) :=
  PEimp (pe_lc hc hN hi ok hg ht he hs) fun σ H Q h => lc_read h
/-- y = [..] -/
theorem rs_setLc {py : Pos} (i : Nat) (hc : X.calm = true) (hN : X.N.Nodup) (hy : X.N[i]? = some y) (hyl : X.env.scope.names.lookup y = some .local)
    (hsw : swapsWith (.ListComp elt [⟨tg, iter, ifs, 0⟩] scope pos) (some (.Name y py)) spos.line X.env = pure true) (hi : RIc X E tg iter ms) (ok : BlkOk X.N X.env.scope scope own)
    (hg : ∀ (s : Shared) (H : Hp) (C : Addr) (cl : List (Str × Addr)) (fp : List Addr), RC (X.blk s H scope (compEnvC scope cl C X.env) fp) (own.map (·.2)) tg g)
    (ht : ∀ (s : Shared) (H : Hp) (C : Addr) (cl : List (Str × Addr)) (fp : List Addr), RTs (X.blk s H scope (compEnvC scope cl C X.env) fp) EN ifs mt)
    (he : ∀ (s : Shared) (H : Hp) (C : Addr) (cl : List (Str × Addr)) (fp : List Addr), RE (X.blk s H scope (compEnvC scope cl C X.env) fp) EN elt me)
    (hs : ∀ x, foldedSetIterable iter X.env x = pure x := by intro _; rfl) :
    RS1 X E (.Assign [.Name y py] (.ListComp elt [⟨tg, iter, ifs, 0⟩] scope pos) spos) (sE (mLc ms (own.map (·.2)) g mt me) fun ds => sSet i (.lst ds)) :=
  PSimp (ps_setLc (i := i) hc hN hy hyl hsw hi ok hg ht he hs) fun D σ H ⟨O, st, ρ, S, s, gg⟩ => lc_read ⟨O, st, ρ, S, s, by
    unfold sE at gg
    cases em : mLc ms (own.map (·.2)) g mt me ρ S with
    | ok ds S' =>
      rw [em] at gg
      refine fun H1 p vs f sq hp r => ?_
      have s1 := s.ext f sq
      have s2 := s1.ext (FrE.laid (st := st) (o := .lst vs) hp) (sq.laid hp)
      obtain ⟨s3, f3⟩ := s2.set (i := i) (v := some (.ref p)) (sd := .val (.lst ds)) (fun z => z) fun _ => .val (s1.mkL r hp)
      exact gg _ _ s3 ((f.trans (FrE.laid hp)).fs.trans f3 s2.sin)
    | exc x S' => rw [em] at gg; exact fun c dx H' f q r => gg c dx H' (fun a o h n _ => f a o h n) q r
    | bad => rw [em] at gg; exact gg⟩
/-- y = [..], a list of one's own -/
theorem rs_ownLc {py : Pos} (i : Nat) (hc : X.calm = true) (hN : X.N.Nodup) (hy : X.N[i]? = some y) (hyl : X.env.scope.names.lookup y = some .local)
    (hsw : swapsWith (.ListComp elt [⟨tg, iter, ifs, 0⟩] scope pos) (some (.Name y py)) spos.line X.env = pure true) (hi : RIc X E tg iter ms) (ok : BlkOk X.N X.env.scope scope own)
    (hg : ∀ (s : Shared) (H : Hp) (C : Addr) (cl : List (Str × Addr)) (fp : List Addr), RC (X.blk s H scope (compEnvC scope cl C X.env) fp) (own.map (·.2)) tg g)
    (ht : ∀ (s : Shared) (H : Hp) (C : Addr) (cl : List (Str × Addr)) (fp : List Addr), RTs (X.blk s H scope (compEnvC scope cl C X.env) fp) EN ifs mt)
    (he : ∀ (s : Shared) (H : Hp) (C : Addr) (cl : List (Str × Addr)) (fp : List Addr), RE (X.blk s H scope (compEnvC scope cl C X.env) fp) EN elt me)
    (hs : ∀ x, foldedSetIterable iter X.env x = pure x := by intro _; rfl) :
    RS1 X E (.Assign [.Name y py] (.ListComp elt [⟨tg, iter, ifs, 0⟩] scope pos) spos) (sE (mLc ms (own.map (·.2)) g mt me) (sOwn i)) :=
  PSimp (ps_setLc (i := i) hc hN hy hyl hsw hi ok hg ht he hs) fun D σ H ⟨O, st, ρ, S, s, gg⟩ => lc_read ⟨O, st, ρ, S, s, by
    unfold sE at gg
    cases em : mLc ms (own.map (·.2)) g mt me ρ S with
    | ok ds S' =>
      rw [em] at gg
      refine fun H1 p vs f sq hp r => ?_
      have s1 := s.ext f sq
      dsimp only [sOwn] at gg
      by_cases hl : i < ρ.length
      · rw [if_pos hl] at gg
        obtain ⟨s2, f2⟩ := s1.setNew (i := i) hp (.lst r) hl
        exact gg _ _ s2 (f.fs.trans f2 s1.sin)
      · rw [if_neg hl] at gg
        exact gg.elim
    | exc x S' => rw [em] at gg; exact fun c dx H' f q r => gg c dx H' (fun a o h n _ => f a o h n) q r
    | bad => rw [em] at gg; exact gg⟩
end

/-! ### defs -/
/-- a def's promise: what the mirror m says -/
def spM (K : PySem.W.Frag) (mg : Str → Option Value) (n : Nat) (m : List D → DS → Res D) : Sp := fun vs H Q E => ∃ (O : Addr → Prop) (st : StA) (S : DS) (ds : List D), ds.length = n ∧ Reps K mg st H (AV0 O st) vs ds ∧ StOk st H S ∧
  (∀ a, O a → Hard H a) ∧ (∀ a, O a → ¬ stA st a) ∧ match m ds S with
    | .ok d S' => ∀ v H', FrE st H H' → StOk st H' S' → Rep K mg st H' (AV0 O st) v d → Q v H'
    | .exc x S' => ∀ cls dx H', FrE st H H' → StOk st H' S' → XR K mg st H' (AV0 O st) cls dx x → E cls dx H'
    | .bad => False
structure Df (P : Program) (w : World) (K : PySem.W.Frag) (mg : Str → Option Value) (base : Heap) (k : Nat) (x : Str) (ps : List Str) (m : List D → DS → Res D) (st : Stmt) : Prop where
  ex : ∃ (a : Addr) (fd : FuncData), mg x = some (.ref a) ∧ Fun K x x st a fd ∧ Binds K fd ps [] ∧ FnOk P w K mg base (L2.CX P w) k a fd ps (spM K mg ps.length m)
theorem Df.mono {P : Program} {w : World} {K : PySem.W.Frag} {mg : Str → Option Value} {base : Heap} {j k : Nat} {x : Str} {ps : List Str} {m : List D → DS → Res D} {st : Stmt} (d : Df P w K mg base j x ps m st) (h : j ≤ k) : Df P w K mg base k x ps m st := by
  obtain ⟨a, fd, h1, h2, h3, h4⟩ := d.ex
  exact ⟨a, fd, h1, h2, h3, h4.mono h⟩
/-- the body runs on its slots -/
def runFn (N : Nat) (mb : MS) : List D → DS → Res D := fun ds S => match mb (ds.map SD.val ++ List.replicate (N - ds.length) SD.no) S with
  | .nx _ S' => .ok .non S'
  | .rt d S' => .ok d S'
  | .exc x S' => .exc x S'
  | _ => .bad
theorem sim_start {K : PySem.W.Frag} {mg : Str → Option Value} {O : Addr → Prop} {st : StA} {H : Hp} {S : DS} {vs : List V} {ds : List D} {N : List Str} (r : Reps K mg st H (AV0 O st) vs ds) (q : StOk st H S) (h1 : ∀ a, O a → Hard H a) (h2 : ∀ a, O a → ¬ stA st a) :
    Sim K mg O st (L2.start N vs) H (ds.map SD.val ++ List.replicate (N.length - ds.length) SD.no) S ∧ ∀ a, ¬ ownA (L2.start N vs) (ds.map SD.val ++ List.replicate (N.length - ds.length) SD.no) a := by
  have no : ∀ (i : Nat) (sd : SD), (ds.map SD.val ++ List.replicate (N.length - ds.length) SD.no)[i]? = some sd → ¬ isOwn sd := fun i sd e => by
    have hm := List.mem_of_getElem? e
    rcases List.mem_append.mp hm with z | z
    · obtain ⟨d, _, rfl⟩ := List.mem_map.mp z
      exact fun y => y
    · rw [(List.mem_replicate.mp z).2]
      exact fun y => y
  have nown : ∀ a, ¬ ownA (L2.start N vs) (ds.map SD.val ++ List.replicate (N.length - ds.length) SD.no) a := fun a ⟨i, sd, e, h, _⟩ => no i sd e h
  have fr : ∀ a, AV O st (L2.start N vs) (ds.map SD.val ++ List.replicate (N.length - ds.length) SD.no) a → AV0 O st a := fun a z => by
    rcases z with z | z | z
    · exact .inl z
    · exact .inr z
    · exact (nown a z).elim
  have hl := r.length
  refine ⟨⟨?_, fun i sd e => ?_, fun i j s t a h1 _ h3 => (no i s h1 h3).elim, fun a z => (nown a z).elim, h1, q, q.sin, h2⟩, nown⟩
  · unfold L2.start
    simp [hl]
  · by_cases hi : i < ds.length
    · rw [List.getElem?_append_left (by simpa using hi), List.getElem?_map, List.getElem?_eq_getElem hi] at e
      cases e
      obtain ⟨v, e1, r1⟩ := r.get i (List.getElem?_eq_getElem hi)
      refine ⟨some v, ?_, .val (r1.weak fr)⟩
      unfold L2.start
      rw [List.getElem?_append_left (by simp [hl]; exact hi), List.getElem?_map, e1]
      rfl
    · rw [List.getElem?_append_right (by simpa using Nat.le_of_not_lt hi)] at e
      have hm := List.mem_of_getElem? e
      rw [(List.mem_replicate.mp hm).2]
      have hb := (List.getElem?_eq_some_iff.mp e).1
      simp only [List.length_map, List.length_replicate] at hb
      refine ⟨none, ?_, .no⟩
      unfold L2.start
      rw [List.getElem?_append_right (by simp [hl]; exact Nat.le_of_not_lt hi), List.getElem?_replicate]
      simp only [List.length_map, hl]
      rw [if_pos hb]
section
variable {P : Program} {w : World} {K : PySem.W.Frag} {mg : Str → Option Value} {base : Heap}
/-- THE RULE for a def -/
theorem df_of {x : Str} {st : Stmt} {a : Addr} {fd : FuncData} {N ps : List Str} {k : Nat} {mb : MS} (F : Fun K x x st a fd) (hm : mg x = some (.ref a)) (S : FnScope N ps (defScope st)) (hb : Binds K fd ps [])
    (body : ∀ (cdv : Value) (A : Around) (outer : List Env) (s : Shared) (H : Hp) (E : XK), Ctx (cxOf (L2.CX P w) P w K mg base N x (defScope st) a cdv A outer s H E) E k → PassesOwn (model P w) (cxOf (L2.CX P w) P w K mg base N x (defScope st) a cdv A outer s H E).A (cxOf (L2.CX P w) P w K mg base N x (defScope st) a cdv A outer s H E).env (cxOf (L2.CX P w) P w K mg base N x (defScope st) a cdv A outer s H E).xe →
      Takes (cxOf (L2.CX P w) P w K mg base N x (defScope st) a cdv A outer s H E) (fun cls d _ H => E cls d H) →
      RSs (cxOf (L2.CX P w) P w K mg base N x (defScope st) a cdv A outer s H E) E (defBody st) mb) : Df P w K mg base (k + 1) x ps (runFn N.length mb) st := by
  refine ⟨a, fd, hm, F, hb, F.okX S (fun vs H Q E h => ?_) (fun cdv A outer s H vs Q E hr h => ?_)⟩
  · obtain ⟨O, st, S, ds, e, r, _⟩ := h
    rw [r.length, e]
  · obtain ⟨O, sta, S0, ds, e, r, q, h1, h2, h3⟩ := h
    have tk : Takes (cxOf (L2.CX P w) P w K mg base N x (defScope st) a cdv A outer s H E) (fun cls d _ H => E cls d H) := takes_of rfl rfl rfl rfl
    refine ⟨_, body cdv A outer s H E ⟨hr, passes_call tk fun _ _ _ _ z => z, rfl⟩ (passes_of rfl) tk, ?_⟩
    obtain ⟨s1, n1⟩ := sim_start (N := N) r q h1 h2
    refine ⟨O, sta, _, S0, s1, ?_⟩
    unfold runFn at h3
    cases eb : mb (ds.map SD.val ++ List.replicate (N.length - ds.length) SD.no) S0 with
    | nx ρ' S' => rw [eb] at h3; exact fun σ' H' s' f' => h3 .non H' (fun a o h n => f'.keep a o h n (n1 a)) s'.state .non
    | rt d S' => rw [eb] at h3; exact fun v H' f' => h3 v H' (fun a o h n => f' a o h n (n1 a))
    | exc x S' => rw [eb] at h3; exact fun c dx H' f' => h3 c dx H' (fun a o h n => f' a o h n (n1 a))
    | bk ρ' S' => rw [eb] at h3; exact h3.elim
    | ct ρ' S' => rw [eb] at h3; exact h3.elim
    | bad => rw [eb] at h3; exact h3.elim
end
def mCall (n : Nat) (ms : M (List D)) (m : List D → DS → Res D) : M D := bnd ms fun ds => if ds.length = n then (fun _ S => m ds S) else bad
section
variable {X : Cx} {E : XK} {e a b : Expr} {es : List Expr} {ms : M (List D)} {pos p1 p2 : Pos} {x : Str} {k j : Nat} {ps : List Str} {m : List D → DS → Res D} {st : Stmt} {kws : List Keyword}
theorem sp_of {O : Addr → Prop} {st : StA} {σ : L2.St} {ρ : En} {S : DS} {H : Hp} {n : Nat} {vs : List V} {ds : List D} {Q : VK} (s : Sim X.K X.mg O st σ H ρ S) (r : Reps X.K X.mg st H (AV O st σ ρ) vs ds)
    (g : Good X.K X.mg E (RfD X.K X.mg) O st σ ρ H ((if ds.length = n then (fun _ S => m ds S : M D) else bad) ρ S) Q) : spM X.K X.mg n m vs H Q E := by
  by_cases hn : ds.length = n
  case neg => rw [if_neg hn] at g; exact g.elim
  rw [if_pos hn] at g
  have av : ∀ a, AV0 (fun a => O a ∨ ownA σ ρ a) st a → AV O st σ ρ a := fun a q => by
    rcases q with (q | q) | q
    · exact .inl q
    · exact .inr (.inr q)
    · exact .inr (.inl q)
  have va : ∀ a, AV O st σ ρ a → AV0 (fun a => O a ∨ ownA σ ρ a) st a := fun a q => by
    rcases q with q | q | q
    · exact .inl (.inl q)
    · exact .inr q
    · exact .inl (.inr q)
  refine ⟨fun a => O a ∨ ownA σ ρ a, st, S, ds, hn, r.weak av, s.state, fun a q => ?_, fun a q => ?_, ?_⟩
  · rcases q with q | q
    · exact s.there a q
    · exact s.hard q
  · rcases q with q | q
    · exact s.off a q
    · exact (s.far a q).2
  · cases em : m ds S with
    | ok d S' =>
      rw [em] at g
      exact fun v H' f q r => g v H' f q (r.weak va)
    | exc x S' =>
      rw [em] at g
      refine fun c dx H' f q xr => g c dx H' f q ?_
      obtain ⟨cn, p⟩ := x
      cases p with
      | none => exact xr
      | some fd =>
        obtain ⟨f1, d1⟩ := fd
        obtain ⟨C, a1, v, h1, h2, h3, h4, h5, h6⟩ := xr
        have w0 : ∀ a, AV0 O st a → AV0 (fun a => O a ∨ ownA σ ρ a) st a := fun a q => q.elim (fun z => .inl (.inl z)) .inr
        exact ⟨C, a1, v, h1, h2, h3, fun z => h4 (w0 _ z), h5, h6.weak w0⟩
    | bad =>
      rw [em] at g
      exact g
theorem re_call (d : Df X.prog X.w X.K X.mg X.base j x ps m st) (c : Ctx X E k) (hjk : j ≤ k) (hg : Gl X x) (ha : RA X E (e :: es) ms) (hdb : (x == ("__debug__" : Str)) = false := by decide)
    (he : starEach (e :: es) X.env = (false, eval e X.env) :: starEach es X.env := by rfl) (hpl : (backTo pos (starEach es X.env)).any (·.1) = false := by rfl) : RE X E (.Call (.Name x p1) (e :: es) [] pos) (mCall ps.length ms m) := by
  obtain ⟨a, fd, hm, F, hb, ok⟩ := d.ex
  refine PEimp (pe_call ok (c.room.mono hjk) hg hm F.kp hb .nil c.pass ha hdb he hpl) fun σ H Q h => ?_
  refine tG_mono (tG_bnd (R1 := RfL X.K X.mg) h) fun vs H1 h1 => ?_
  obtain ⟨O, st, ρ, S, ds, s, r, g⟩ := h1
  rw [List.append_nil]
  exact sp_of s r g
theorem re_call0 (d : Df X.prog X.w X.K X.mg X.base j x [] m st) (c : Ctx X E k) (hjk : j ≤ k) (hg : Gl X x) (hdb : (x == ("__debug__" : Str)) = false := by decide) : RE X E (.Call (.Name x p1) [] [] pos) (mCall 0 (ret []) m) := by
  obtain ⟨a, fd, hm, F, hb, ok⟩ := d.ex
  refine PEimp (pe_call0 ok (c.room.mono hjk) hg hm F.kp hb .nil c.pass hdb) fun σ H Q ⟨O, st, ρ, S, s, g⟩ => ?_
  exact sp_of (ds := []) s .nil g
end
end Pf
end

section
set_option Elab.async false
set_option linter.all false
set_option maxRecDepth 100000
namespace Pf
open PySem PySem.Spec L2
variable [TabsC]

/-! ### what comes into a slot: plain data, or a new object of one's own -/
def VNew (K : PySem.W.Frag) (mg : Str → Option Value) (O : Addr → Prop) (st : StA) (σ : L2.St) (ρ : En) (H1 : Hp) (v : V) (H2 : Hp) (sd : SD) : Prop :=
  (∃ d, sd = .val d ∧ H2 = H1 ∧ Rep K mg st H1 (AV O st σ ρ) v d) ∨ ∃ p o, v = .ref p ∧ H1 p = none ∧ H2 = upd H1 p o ∧ OwnOk K mg st H1 (AV O st σ ρ) o sd
section
variable (K : PySem.W.Frag) (mg : Str → Option Value) (E : XK)
def GoodV (O : Addr → Prop) (st : StA) (σ : L2.St) (ρ : En) (H : Hp) (r : Res SD) (Q : VK) : Prop := match r with
  | .ok sd S' => ∀ H1 v H2, FrE st H H1 → StOk st H1 S' → VNew K mg O st σ ρ H1 v H2 sd → Q v H2
  | .exc x S' => ∀ cls dx H', FrE st H H' → StOk st H' S' → XR K mg st H' (AV0 O st) cls dx x → E cls dx H'
  | .bad => False
def tV (m : M SD) : TE := fun σ H Q => ∃ O st ρ S, Sim K mg O st σ H ρ S ∧ GoodV K mg E O st σ ρ H (m ρ S) Q
end
abbrev RV (X : Cx) (E : XK) (e : Expr) (m : M SD) : Prop := PE X e (tV X.K X.mg E m)
def mVal (m : M D) : M SD := bnd m fun d => ret (.val d)
def mOwnL (m : M (List D)) : M SD := bnd m fun d => ret (.own d)
section
variable {X : Cx} {E : XK} {e a b : Expr} {es : List Expr} {m : M D} {ml : M (List D)} {mv ma mb : M SD} {pos p1 p2 : Pos} {i j : Nat} {x y : Str}
theorem rv_e (h : RE X E e m) : RV X E e (mVal m) := PEimp h fun σ H Q ⟨O, st, ρ, S, s, g⟩ => ⟨O, st, ρ, S, s, by
  unfold mVal bnd at g
  cases em : m ρ S with
  | ok d S' => rw [em] at g; exact fun v H' f q r => g H' v H' f q (.inl ⟨d, rfl, rfl, r⟩)
  | exc x S' => rw [em] at g; exact g
  | bad => rw [em] at g; exact g⟩
theorem rv_n (h : RN X E e ml) : RV X E e (mOwnL ml) := PEimp h fun σ H Q ⟨O, st, ρ, S, s, g⟩ => ⟨O, st, ρ, S, s, by
  unfold mOwnL bnd at g
  cases em : ml ρ S with
  | ok d S' => rw [em] at g; exact fun H1 p vs f q hp r => g H1 (.ref p) _ f q (.inr ⟨p, _, rfl, hp, rfl, .lst r⟩)
  | exc x S' => rw [em] at g; exact g
  | bad => rw [em] at g; exact g⟩
theorem rv_d0 : RV X E (.Dict [] [] pos) (ret (.ownd [])) := PEimp pe_dnewK fun σ H Q ⟨O, st, ρ, S, s, g⟩ => fun p hp => g H (.ref p) _ FrE.refl s.state (.inr ⟨p, _, rfl, hp, rfl, .dic .nil⟩)
section
variable {K : PySem.W.Frag} {mg : Str → Option Value} {O : Addr → Prop} {st : StA} {σ : L2.St} {ρ : En} {S : DS} {H H1 H2 : Hp} {v : V} {sd : SD}
theorem VNew.fre (h : VNew K mg O st σ ρ H1 v H2 sd) : FrE st H1 H2 := by
  rcases h with ⟨d, _, rfl, _⟩ | ⟨p, o, _, hp, rfl, _⟩
  · exact FrE.refl
  · exact FrE.laid hp
theorem Sim.put (s : Sim K mg O st σ H1 ρ S) (h : VNew K mg O st σ ρ H1 v H2 sd) (hi : i < ρ.length) : Sim K mg O st (List.set σ i (some v)) H2 (ρ.set i sd) S ∧ FrS st σ ρ H1 (List.set σ i (some v)) (ρ.set i sd) H2 := by
  rcases h with ⟨d, rfl, rfl, r⟩ | ⟨p, o, rfl, hp, rfl, ok⟩
  · exact s.set (fun z => z) fun _ => .val r
  · exact s.setNew hp ok hi
end
def sPut (i : Nat) (sd : SD) : MS := fun ρ S => if i < ρ.length then .nx (ρ.set i sd) S else .bad
theorem rs_put (i : Nat) (hN : X.N.Nodup) (hi : X.N[i]? = some x) (hx : Loc X.env.scope x) (he : RV X E e mv) (hs : swapsWith e (some (.Name x p1)) pos.line X.env = pure false := by rfl)
    (hf : X.fn x = true ∨ X.env.scope.names.lookup x = some .local := by first | exact .inl rfl | exact .inr rfl | assumption) : RS1 X E (.Assign [.Name x p1] e pos) (sE mv (sPut i)) :=
  PSimp (ps_set (i := i) hN hi hx he hs hf) fun D σ H ⟨O, st, ρ, S, s, g⟩ => ⟨O, st, ρ, S, s, by
    unfold sE at g
    cases em : mv ρ S with
    | ok sd S' =>
      rw [em] at g
      refine fun H1 v H2 f sq h => ?_
      have s1 := s.ext f sq
      dsimp only [sPut] at g
      by_cases hl : i < ρ.length
      · rw [if_pos hl] at g
        obtain ⟨s2, f2⟩ := s1.put h hl
        exact g _ _ s2 (f.fs.trans f2 s1.sin)
      · rw [if_neg hl] at g
        exact g.elim
    | exc x S' => rw [em] at g; exact fun c dx H' f q r => g c dx H' (fun a o h n _ => f a o h n) q r
    | bad => rw [em] at g; exact g⟩
/-- two values, one after the other, then the two slots -/
def mTwo (ma mb : M SD) (i j : Nat) : MS := sE ma fun s => sE mb fun t ρ S => if i < ρ.length ∧ j < ρ.length then .nx ((ρ.set i s).set j t) S else .bad
theorem XR.weak {K : PySem.W.Frag} {mg : Str → Option Value} {st : StA} {H : Hp} {A A' : Addr → Prop} {cls : Value} {dx : Option Addr} {x : XV} (h : XR K mg st H A cls dx x) (f : ∀ a, A' a → A a) : XR K mg st H A' cls dx x := by
  obtain ⟨cn, p⟩ := x
  cases p with
  | none => exact h
  | some fd =>
    obtain ⟨f1, d1⟩ := fd
    obtain ⟨C, a1, v, h1, h2, h3, h4, h5, h6⟩ := h
    exact ⟨C, a1, v, h1, h2, h3, fun z => h4 (f _ z), h5, h6.weak f⟩
theorem two_h {D : Ends} {σ : L2.St} {H : Hp} (hij : i ≠ j) (h : tS X.K X.mg E (mTwo ma mb i j) D σ H) :
    tV X.K X.mg E ma σ H fun v H1 => tV X.K X.mg E mb σ H1 fun w H2 => ∃ O st ρ S s t σ' ρ', Sim X.K X.mg O st σ' H2 ρ' S ∧ FrS st σ ρ H σ' ρ' H2 ∧ σ' = (List.set σ i (some v)).set j (some w) ∧ ρ' = (ρ.set i s).set j t ∧ GoodS X.K X.mg E O st σ ρ H (.nx ρ' S) D ∧ (∀ a, O a ∨ stA st a ∨ ownA σ' ρ' a → H2 a ≠ none) := by
  obtain ⟨O, st, ρ, S, s0, g⟩ := h
  refine ⟨O, st, ρ, S, s0, ?_⟩
  unfold mTwo sE at g
  cases ea : ma ρ S with
  | exc x S' => rw [ea] at g; exact fun c dx H' f q r => g c dx H' (fun a o h n _ => f a o h n) q r
  | bad => rw [ea] at g; exact g
  | ok sd1 S1 =>
  rw [ea] at g
  dsimp only at g
  refine fun H1 v H2 f1 q1 vn1 => ?_
  have s1 := s0.ext f1 q1
  cases eb : mb ρ S1 with
  | exc x S' =>
    rw [eb] at g
    rcases vn1 with ⟨d, rfl, rfl, r⟩ | ⟨p, o, rfl, hp, rfl, ok⟩
    · exact ⟨O, st, ρ, S1, s1, by rw [eb]; exact fun c dx H' f q r => g c dx H' (fun a o h n _ => f a o (f1 a o h n) n) q r⟩
    · exact ⟨O, st, ρ, S1, s1.ext (FrE.laid hp) (q1.laid hp), by rw [eb]; exact fun c dx H' f q r => g c dx H' (fun a o h n _ => f a o (FrE.laid (st := st) hp a o (f1 a o h n) n) n) q r⟩
  | bad => rw [eb] at g; exact g.elim
  | ok sd2 S2 =>
  rw [eb] at g
  dsimp only at g
  by_cases hl : i < ρ.length ∧ j < ρ.length
  case neg => rw [if_neg hl] at g; exact g.elim
  rw [if_pos hl] at g
  obtain ⟨hi, hj⟩ := hl
  rcases vn1 with ⟨d, rfl, rfl, r⟩ | ⟨p, o, rfl, hp, rfl, ok⟩
  · refine ⟨O, st, ρ, S1, s1, ?_⟩
    rw [eb]
    refine fun H3 w H4 f3 q3 vn2 => ?_
    have s3 := s1.ext f3 q3
    obtain ⟨s4, f4⟩ := s3.set (i := i) (v := some v) (sd := .val d) (fun z => z) fun _ => .val (r.frm f3.frm)
    have vn2' : VNew X.K X.mg O st (List.set σ i (some v)) (ρ.set i (.val d)) H3 w H4 sd2 := by
      rcases vn2 with ⟨d2, e1, e2, r2⟩ | ⟨q, o, e1, e2, e3, ok⟩
      · exact .inl ⟨d2, e1, e2, r2.frm f4.frm⟩
      · exact .inr ⟨q, o, e1, e2, e3, ok.frm f4.frm⟩
    obtain ⟨s5, f5⟩ := s4.put vn2' (i := j) (by simpa using hj)
    refine ⟨O, st, ρ, S2, _, _, _, _, s5, (f1.trans f3).fs.trans (f4.trans f5 s4.sin) s3.sin, rfl, rfl, g, fun a q => s5.av (by
      rcases q with q | q | q
      · exact .inl q
      · exact .inr (.inl q)
      · exact .inr (.inr q))⟩
  · have sR := s1.reserve hp o ok.hard
    have okR := ok.frm (s1.resFrm hp o)
    refine ⟨plusA O p, st, ρ, S1, sR, ?_⟩
    rw [eb]
    refine fun H3 w H4 f3 q3 vn2 => ?_
    have nO : ¬ O p := fun z => (s1.there p z).ne hp
    have nS : ¬ stA st p := fun z => s1.sin p z hp
    have s3 := sR.ext f3 q3
    obtain ⟨s4, f4⟩ := s3.put vn2 (i := j) hj
    have hp3 : H4 p = some o := vn2.fre _ _ (f3 _ _ upd_same nS) nS
    have ok4 := (okR.frm f3.frm).frm f4.frm
    have s5 := s4.adopt hp3 ok4 nO nS (i := i) (by simpa using hi)
    rw [set_comm_none hij.symm, List.set_comm _ _ hij.symm] at s5
    refine ⟨O, st, ρ, S2, _, _, _, _, s5, ⟨fun a u h n m => ?_, fun a q => ?_⟩, rfl, rfl, g, fun a q => s5.av (by
      rcases q with q | q | q
      · exact .inl q
      · exact .inr (.inl q)
      · exact .inr (.inr q))⟩
    · exact vn2.fre _ _ (f3 _ _ (FrE.laid (st := st) hp _ _ (f1 a u h n) n) n) n
    · rw [← set_comm_none hij.symm, ← List.set_comm _ _ hij.symm] at q
      rcases own_set_in q with z | z
      · rcases f4.new a z with y | y
        · exact .inl y
        · refine .inr ?_
          cases e : H a with
          | none => rfl
          | some u =>
            by_cases hs : stA st a
            · exact absurd y (s3.sin a hs)
            · rw [f3 _ _ (FrE.laid (st := st) hp _ _ (f1 a u e hs) hs) hs] at y; cases y
      · rw [z]
        refine .inr ?_
        cases e : H p with
        | none => rfl
        | some u => rw [f1 p u e nS] at hp; cases hp
theorem rs_par2 {px py pt : Pos} {kt k2 pt2} (i j : Nat) (hc : X.calm = true) (hN : X.N.Nodup) (hi : X.N[i]? = some x) (hj : X.N[j]? = some y) (hij : i ≠ j)
    (hx : X.env.scope.names.lookup x = some .local) (hy : X.env.scope.names.lookup y = some .local) (ha : RV X E a ma) (hb : RV X E b mb)
    (hw : swappedStores [.Tuple [.Name x px, .Name y py] kt pt] (.Tuple [a, b] k2 pt2) X.env = pure (some [x, y]))
    (hs : swapsWithSole [.Tuple [.Name x px, .Name y py] kt pt] (.Tuple [a, b] k2 pt2) pos.line X.env = pure false := by rfl)
    (h1 : starEach [a, b] X.env = (false, eval a X.env) :: starEach [b] X.env := by rfl) (h2 : starEach [b] X.env = (false, eval b X.env) :: starEach [] X.env := by rfl) :
    RS1 X E (.Assign [.Tuple [.Name x px, .Name y py] kt pt] (.Tuple [a, b] k2 pt2) pos) (mTwo ma mb i j) :=
  PSimp (ps_par (i := i) (j := j) hc hN hi hj hij hx hy (pa_cons ha (pa_cons hb pa_nil h2) h1) hw hs) fun D σ H h => by
    have hh := two_h hij h
    obtain ⟨O, st, ρ, S, s, g⟩ := hh
    refine ⟨O, st, ρ, S, s, ?_⟩
    cases ea : ma ρ S with
    | exc x S' => rw [ea] at g; exact g
    | bad => rw [ea] at g; exact g
    | ok sd S1 =>
      rw [ea] at g
      refine fun H1 v H2 f1 q1 vn => ?_
      obtain ⟨O, st, ρ, S, s, g⟩ := g H1 v H2 f1 q1 vn
      refine ⟨O, st, ρ, S, s, ?_⟩
      cases eb : mb ρ S with
      | exc x S' => rw [eb] at g; exact g
      | bad => rw [eb] at g; exact g
      | ok sd S1 =>
        rw [eb] at g
        refine fun H3 w H4 f3 q3 vn2 => ?_
        obtain ⟨O, st, ρ, S, s1, t1, σ', ρ', s5, f5, rfl, rfl, gg, _⟩ := g H3 w H4 f3 q3 vn2
        exact ⟨v, w, rfl, gg _ _ s5 f5⟩
/-- x, y = a, b by way of the pair -/
theorem rs_par2T {px py pt : Pos} {kt k2 pt2} (i j : Nat) (hc : X.calm = true) (hN : X.N.Nodup) (hi : X.N[i]? = some x) (hj : X.N[j]? = some y) (hij : i ≠ j)
    (hx : Loc X.env.scope x) (hy : Loc X.env.scope y) (ha : RV X E a ma) (hb : RV X E b mb)
    (hw : swappedStores [.Tuple [.Name x px, .Name y py] kt pt] (.Tuple [a, b] k2 pt2) X.env = pure none := by rfl)
    (hs : swapsWithSole [.Tuple [.Name x px, .Name y py] kt pt] (.Tuple [a, b] k2 pt2) pos.line X.env = pure false := by rfl)
    (ht : (assignEach [.Tuple [.Name x px, .Name y py] kt pt] X.env).map (·.2) = [assign (.Tuple [.Name x px, .Name y py] kt pt) X.env] := by rfl)
    (h1 : starEach [a, b] X.env = (false, eval a X.env) :: starEach [b] X.env := by rfl) (h2 : starEach [b] X.env = (false, eval b X.env) :: starEach [] X.env := by rfl)
    (hf1 : X.fn x = true ∨ X.env.scope.names.lookup x = some .local := by first | exact .inl rfl | exact .inr rfl | assumption) (hf2 : X.fn y = true ∨ X.env.scope.names.lookup y = some .local := by first | exact .inl rfl | exact .inr rfl | assumption)
    (ha1 : (assignEach [.Name x px, .Name y py] X.env).map (·.2) = assign (.Name x px) X.env :: (assignEach [.Name y py] X.env).map (·.2) := by rfl) (ha2 : (assignEach [.Name y py] X.env).map (·.2) = assign (.Name y py) X.env :: (assignEach [] X.env).map (·.2) := by rfl)
    (hn : (assignEach [.Name x px, .Name y py] X.env).length = 2 := by rfl) (hst : (assignEach [.Name x px, .Name y py] X.env).findIdx? (·.1) = none := by rfl) :
    RS1 X E (.Assign [.Tuple [.Name x px, .Name y py] kt pt] (.Tuple [a, b] k2 pt2) pos) (mTwo ma mb i j) :=
  PSimp (ps_asg (pe_tup (pa_cons ha (pa_cons hb pa_nil h2) h1)) (pg_tup hc (pgs_cons (pg_name (i := i) hN hi hx hf1) (pgs_cons (pg_name (i := j) hN hj hy hf2) pgs_nil ha2) ha1) hn hst) hs hw ht) fun D σ H h => by
    have hh := two_h hij h
    obtain ⟨O, st, ρ, S, s, g⟩ := hh
    refine ⟨O, st, ρ, S, s, ?_⟩
    cases ea : ma ρ S with
    | exc x S' => rw [ea] at g; exact g
    | bad => rw [ea] at g; exact g
    | ok sd S1 =>
      rw [ea] at g
      refine fun H1 v H2 f1 q1 vn => ?_
      obtain ⟨O, st, ρ, S, s, g⟩ := g H1 v H2 f1 q1 vn
      refine ⟨O, st, ρ, S, s, ?_⟩
      cases eb : mb ρ S with
      | exc x S' => rw [eb] at g; exact g
      | bad => rw [eb] at g; exact g
      | ok sd S1 =>
        rw [eb] at g
        refine fun H3 w H4 f3 q3 vn2 => ?_
        obtain ⟨O, st, ρ, S, s1, t1, σ', ρ', s5, f5, rfl, rfl, gg, _⟩ := g H3 w H4 f3 q3 vn2
        refine ⟨by show 2 ≤ sizeLine; decide, fun T hT => ⟨T, _, rfl, SqT.of upd_same, rfl, _, _, rfl, _, _, rfl, rfl, ?_⟩⟩
        have s6 := s5.ext (FrE.laid (st := st) (o := .tup [v, w]) hT) (s5.state.laid hT)
        exact gg _ _ s6 (f5.trans (FrE.laid (st := st) hT).fs s5.sin)
end
end Pf
end

section
set_option Elab.async false
set_option linter.all false
set_option maxRecDepth 100000
namespace Pf
open PySem PySem.Spec L2
variable [TabsC]

/-! ### small ones -/
section
variable {X : Cx} {E : XK} {e a b : Expr} {es : List Expr} {m ma mb : M D} {ms : M (List D)} {pos p1 p2 p3 : Pos} {i j : Nat} {x y : Str}
theorem re_gli {x : Str} {i : Int} (hg : Gl X x) (h : ∃ t, X.mg x = some (.int i t)) (hd : (x == ("__debug__" : Str)) = false := by decide) : RE X E (.Name x pos) (ret (.int i)) := by
  obtain ⟨t, h⟩ := h
  exact re_glc hg h (v := .int i) ⟨t, rfl⟩ (fun _ _ _ => .int i) hd
def dNeg : D → Option D
  | .int i => some (.int (-i))
  | _ => none
theorem re_neg (ha : RQ X E a m) : RE X E (.UnaryOp .USub a pos) (mB1 m dNeg) := PEimp (pe_un un_neg ha) fun σ H Q h =>
  c1_h (r := fun xs H Q => ∀ x, xs = [x] → rU (fun i => .int (-i)) x H Q) (f := dNeg) (fun O st σ ρ S H x a d Q s ra e g y hy => by
    cases hy
    unfold dNeg at e
    split at e
    · cases e; cases q_int ra; exact ⟨_, rfl, g _ _ FrE.refl s.state (.int _)⟩
    · cases e) h |> fun z => tG_mono z fun x H1 h1 => h1 x rfl

/-! ### isinstance: the built-in types -/
def dTyp : D → Option String
  | .non => some "NoneType"
  | .bl _ => some "bool"
  | .int _ => some "int"
  | .str _ => some "str"
  | .tup _ => some "tuple"
  | .lst _ => some "list"
  | .dic _ => some "dict"
  | _ => none
theorem q_typ {K : PySem.W.Frag} {mg : Str → Option Value} {O : Addr → Prop} {st : StA} {σ : L2.St} {ρ : En} {H : Hp} {v : V} {d : D} {t : String} (r : RfQ K mg O st σ ρ H v d) (h : dTyp d = some t) : TyX K H v (.type t) := by
  cases d <;> try (cases h; done)
  case non => cases h; cases q_non r; exact .base .non
  case bl => cases h; cases q_bl r; exact .base (.bl _)
  case int => cases h; cases q_int r; exact .base (.int _)
  case str => cases h; cases q_str r; exact .base (.str _)
  case tup =>
    cases h
    obtain ⟨a, vs, rfl, (q | ⟨o, q⟩) | ⟨o, _, _, q, q2, _⟩, _⟩ := q_tup r
    · exact .base (.tup q)
    · exact .fTuple q
    · exact .kTuple q q2
  case lst =>
    cases h
    obtain ⟨a, vs, rfl, q, _⟩ := q_lst r
    exact .base (.lst q)
  case dic =>
    cases h
    rcases r with r | ⟨_, _, _, _, e, _⟩
    · cases r with
      | dic0 n q => exact .base (.dK q)
    · cases e
def dIsT (T : String) (d : D) : Option D := (dTyp d).bind fun t => (kitB t T).map .bl
theorem re_isT {T : String} (hg : Gl X "isinstance") (hm : X.mg "isinstance" = none) (hg2 : Gl X y) (hm2 : X.mg y = none) (hv : bootBuiltins y = some (.type T)) (ha : RQ X E a m) (hn : y ≠ "__name__" := by decide) (hd : (y == ("__debug__" : Str)) = false := by decide)
    (hs : starEach [a, .Name y p2] X.env = (false, eval a X.env) :: starEach [.Name y p2] X.env := by rfl) (hs2 : starEach [.Name y p2] X.env = (false, eval (.Name y p2) X.env) :: starEach [] X.env := by rfl) (hpl : (backTo pos (starEach [.Name y p2] X.env)).any (·.1) = false := by rfl) :
    RE X E (.Call (.Name "isinstance" p1) [a, .Name y p2] [] pos) (mB1 m (dIsT T)) :=
  PEimp (pe_callB call_isi hg hm (by decide +kernel) (pa_cons ha (pa_cons (pe_bltn hg2 hm2 hv (v := .ty T) rfl hn hd) pa_nil hs2) hs) (he := hs) (hpl := hpl)) fun σ H Q h =>
    c1_h (r := fun xs H Q => rIsi X.K (xs ++ [V.ty T]) H Q) (f := dIsT T) (fun O st σ ρ S H x a d Q s ra e g => by
      unfold dIsT at e
      cases ht : dTyp a with
      | none => rw [ht] at e; cases e
      | some t =>
        rw [ht] at e
        simp only [Option.bind_some, Option.map_eq_some_iff] at e
        obtain ⟨k, e1, e2⟩ := e
        subst e2
        exact ⟨_, _, _, _, _, rfl, .ty T, q_typ ra ht, kit_ty e1, g _ _ FrE.refl s.state (.bl _)⟩) h
def dIsT2 (T U : String) (d : D) : Option D := (dTyp d).bind fun t => match kitB t T, kitB t U with
  | some a, some b => some (.bl (a || b))
  | _, _ => none
theorem kitAny2 {K : PySem.W.Frag} {t : String} {T U : String} {a b : Bool} (h1 : kitB t T = some a) (h2 : kitB t U = some b) : PySem.W.kitAny K (.type t) [.type T, .type U] = some (a || b) := by
  refine kitAny_cons (kit_ty h1) (fun e => ?_) fun e => by rw [e]; rfl
  rw [e, Bool.false_or]
  refine kitAny_cons (kit_ty h2) (fun e => ?_) fun e => by rw [e]
  rw [e]; rfl
theorem re_isT2 {T U : String} {z : Str} {k : Nat} {p4 : Pos} (hg : Gl X "isinstance") (hm : X.mg "isinstance" = none) (hg2 : Gl X y) (hm2 : X.mg y = none) (hv : bootBuiltins y = some (.type T)) (hg3 : Gl X z) (hm3 : X.mg z = none) (hv3 : bootBuiltins z = some (.type U)) (ha : RQ X E a m)
    (hn : y ≠ "__name__" := by decide) (hd : (y == ("__debug__" : Str)) = false := by decide) (hn3 : z ≠ "__name__" := by decide) (hd3 : (z == ("__debug__" : Str)) = false := by decide)
    (hs : starEach [a, .Tuple [.Name y p2, .Name z p3] k p4] X.env = (false, eval a X.env) :: starEach [.Tuple [.Name y p2, .Name z p3] k p4] X.env := by rfl) (hs2 : starEach [.Tuple [.Name y p2, .Name z p3] k p4] X.env = (false, eval (.Tuple [.Name y p2, .Name z p3] k p4) X.env) :: starEach [] X.env := by rfl) (hpl : (backTo pos (starEach [.Tuple [.Name y p2, .Name z p3] k p4] X.env)).any (·.1) = false := by rfl)
    (hs3 : starEach [.Name y p2, .Name z p3] X.env = (false, eval (.Name y p2) X.env) :: starEach [.Name z p3] X.env := by rfl) (hs4 : starEach [.Name z p3] X.env = (false, eval (.Name z p3) X.env) :: starEach [] X.env := by rfl) :
    RE X E (.Call (.Name "isinstance" p1) [a, .Tuple [.Name y p2, .Name z p3] k p4] [] pos) (mB1 m (dIsT2 T U)) :=
  PEimp (pe_callB call_isiT hg hm (by decide +kernel) (pa_cons ha (pa_cons (pe_tup (pa_cons (pe_bltn hg2 hm2 hv (v := .ty T) rfl hn hd) (pa_cons (pe_bltn hg3 hm3 hv3 (v := .ty U) rfl hn3 hd3) pa_nil hs4) hs3)) pa_nil hs2) hs) (he := hs) (hpl := hpl)) fun σ H Q h =>
    c1_h (r := fun xs H Q => (2 ≤ sizeLine) ∧ ∀ p, H p = none → rIsiT X.K (xs ++ [V.ref p]) (upd H p (.tup [V.ty T, V.ty U])) Q) (f := dIsT2 T U) (fun O st σ ρ S H x a d Q s ra e g => by
      unfold dIsT2 at e
      cases ht : dTyp a with
      | none => rw [ht] at e; cases e
      | some t =>
        rw [ht] at e
        simp only [Option.bind_some] at e
        split at e
        · rename_i k1 k2 e1 e2
          cases e
          refine ⟨by decide, fun p hp => ?_⟩
          have f := FrE.laid (st := st) (o := .tup [.ty T, .ty U]) hp
          exact ⟨_, p, _, _, _, _, rfl, upd_same, .cons (.ty T) (.cons (.ty U) .nil), q_typ (RfQ.stable _ _ _ _ _ _ _ _ f ra) ht, kitAny2 e1 e2, g _ _ f (s.state.laid hp) (.bl _)⟩
        · cases e) h
end

/-! ### dicts of one's own -/
def kvOf (ρ : En) (i : Nat) : Option (List (D × D)) := match ρ[i]? with
  | some (.ownd kd) => some kd
  | some (.lckd kd) => some kd
  | _ => none
def dGetK (kd : List (D × D)) (k : Key) : Option D := (kd.find? fun p => decide (keyD p.1 = some k)).map (·.2)
def dPutK (kd : List (D × D)) (x : D) (k : Key) (d : D) : List (D × D) := if (kd.any fun p => decide (keyD p.1 = some k)) = true then kd.map (fun p => if keyD p.1 = some k then (p.1, d) else p) else kd ++ [(x, d)]
section
variable {K : PySem.W.Frag} {mg : Str → Option Value} {O : Addr → Prop} {st : StA} {σ : L2.St} {ρ : En} {S : DS} {H : Hp} {i : Nat} {A : Addr → Prop}
theorem kv_of {kd : List (D × D)} (s : Sim K mg O st σ H ρ S) (h : kvOf ρ i = some kd) : ∃ a kv, σ[i]? = some (some (.ref a)) ∧ Rd H a (.dK kv) ∧ KReps K mg st H (AV O st σ ρ) kv kd ∧ ¬ stA st a := by
  unfold kvOf at h
  split at h
  · rename_i kd' e
    cases h
    obtain ⟨w, e1, q⟩ := s.slot i _ e
    cases q with
    | ownd h r => exact ⟨_, _, e1, .inl h, r, (s.far _ ⟨i, _, e, trivial, e1⟩).2⟩
  · rename_i kd' e
    cases h
    obtain ⟨w, e1, q⟩ := s.slot i _ e
    cases q with
    | lckd h r => exact ⟨_, _, e1, .inr ⟨_, h⟩, r, (s.far _ ⟨i, _, e, trivial, e1⟩).2⟩
  · cases h
theorem KReps.len {kv : List (Key × V)} {kd : List (D × D)} (h : KReps K mg st H A kv kd) : kv.length = kd.length := by
  induction h with
  | nil => rfl
  | cons _ _ _ ih => simp [ih]
theorem KReps.find {k : Key} {kv : List (Key × V)} {kd : List (D × D)} (h : KReps K mg st H A kv kd) : (dGetK kd k = none ∧ valV kv k = none) ∨ ∃ d v, dGetK kd k = some d ∧ valV kv k = some v ∧ Rep K mg st H A v d := by
  induction h with
  | nil => exact .inl ⟨rfl, rfl⟩
  | @cons k' v a d kv kd e r t ih =>
    by_cases hk : k' = k
    · subst hk
      refine .inr ⟨d, v, ?_, valV_pos rfl, r⟩
      unfold dGetK
      rw [List.find?_cons, decide_eq_true e]
      rfl
    · have ne : ¬ keyD a = some k := fun z => hk (by rw [e] at z; exact Option.some.inj z)
      have e1 : dGetK ((a, d) :: kd) k = dGetK kd k := by
        unfold dGetK
        rw [List.find?_cons, decide_eq_false ne]
      rw [e1, valV_neg (p := (k', v)) hk]
      exact ih
theorem KReps.anyk {k : Key} {kv : List (Key × V)} {kd : List (D × D)} (h : KReps K mg st H A kv kd) : (kv.any fun p => decide (p.1 = k)) = kd.any fun p => decide (keyD p.1 = some k) := by
  induction h with
  | nil => rfl
  | @cons k' v a d kv kd e r t ih =>
    rw [List.any_cons, List.any_cons, ih]
    congr 1
    rw [e]
    by_cases hk : k' = k
    · subst hk; simp
    · rw [decide_eq_false hk, decide_eq_false (fun z => hk (Option.some.inj z))]
theorem KReps.snoc {k : Key} {x d : D} {v : V} (hx : keyD x = some k) (r : Rep K mg st H A v d) {kv : List (Key × V)} {kd : List (D × D)} (h : KReps K mg st H A kv kd) : KReps K mg st H A (kv ++ [(k, v)]) (kd ++ [(x, d)]) := by
  induction h with
  | nil => exact .cons hx r .nil
  | cons e q _ ih => exact .cons e q ih
theorem KReps.over {k : Key} {d : D} {v : V} (r : Rep K mg st H A v d) {kv : List (Key × V)} {kd : List (D × D)} (h : KReps K mg st H A kv kd) : KReps K mg st H A (kv.map fun p => if p.1 = k then (p.1, v) else p) (kd.map fun p => if keyD p.1 = some k then (p.1, d) else p) := by
  induction h with
  | nil => exact .nil
  | @cons k' v' a d' kv kd e q t ih =>
    rw [List.map_cons, List.map_cons]
    by_cases hk : k' = k
    · subst hk
      rw [if_pos rfl, if_pos e]
      exact .cons e r ih
    · rw [if_neg hk, if_neg (fun z => hk (by dsimp only at z; rw [e] at z; exact Option.some.inj z))]
      exact .cons e q ih
theorem KReps.put {k : Key} {x d : D} {v : V} (hx : keyD x = some k) (r : Rep K mg st H A v d) {kv : List (Key × V)} {kd : List (D × D)} (h : KReps K mg st H A kv kd) : KReps K mg st H A (putK kv k v) (dPutK kd x k d) := by
  unfold putK dPutK
  rw [h.anyk]
  split
  · exact h.over r
  · exact h.snoc hx r
theorem kv_key {x : D} {k : Key} {v : V} (h : keyD x = some k) (r : Rep K mg st H A v x) : v = kV k := by
  cases x <;> try (cases h; done)
  · cases h; cases r; rfl
  · cases h; cases r; rfl
theorem rd_get {a : Addr} {kv : List (Key × V)} {k : Key} (h : Rd H a (.dK kv)) : DGet H a (kV k) (valV kv k) := .inl ⟨kv, k, h, rfl, rfl⟩
theorem rd_frE {H' : Hp} {a : Addr} {u : HO} (f : FrE st H H') (n : ¬ stA st a) (h : Rd H a u) : Rd H' a u := h.elim (fun z => .inl (f _ _ z n)) fun ⟨o, z⟩ => .inr ⟨o, f _ _ z n⟩
theorem kvOf_len {kd : List (D × D)} (h : kvOf ρ i = some kd) : i < ρ.length := by
  unfold kvOf at h
  by_cases hi : i < ρ.length
  · exact hi
  · rw [List.getElem?_eq_none (Nat.le_of_not_lt hi)] at h; cases h
end
def mDin (pos : Bool) (i : Nat) (m : M D) : M Bool := bnd m fun x ρ S => match kvOf ρ i, keyD x with
  | some kd, some k => .ok ((dGetK kd k).isSome == pos) S
  | _, _ => .bad
def mDget (i : Nat) (m : M D) : M D := fun ρ S => match kvOf ρ i with
  | none => .bad
  | some kd => bnd m (fun x => match keyD x with
    | some k => match dGetK kd k with
      | some d => ret d
      | none => bad
    | none => bad) ρ S
def mDlen (i : Nat) : M D := fun ρ S => match ρ[i]? with
  | some (.ownd kd) => .ok (.int kd.length) S
  | _ => .bad
def sDput (i : Nat) (mv mk : M D) : MS := sE mv fun d ρ S => match ρ[i]? with
  | some (.ownd kd) => sE mk (fun x ρ S => match keyD x with
    | some k => if kd.length < 16777216 then .nx (ρ.set i (.ownd (dPutK kd x k d))) S else .bad
    | none => .bad) ρ S
  | _ => .bad
section
variable {X : Cx} {E : XK} {e a b d : Expr} {es : List Expr} {m ma mb mv mk : M D} {ms : M (List D)} {pos p1 p2 p3 : Pos} {i j : Nat} {x y : Str}
theorem din_h {b : Bool} {σ : L2.St} {H : Hp} {Q : Bool → Hp → Prop} (h : tG X.K X.mg E RfB (mDin b i m) σ H Q) :
    tG X.K X.mg E (RfD X.K X.mg) m σ H fun y H1 => tVar i σ H1 fun x H2 => ∃ a o, x = .ref a ∧ DGet H2 a y o ∧ Q (o.isSome == b) H2 := by
  refine tG_mono (tG_bnd (R1 := RfD X.K X.mg) h) fun y H1 h1 => ?_
  obtain ⟨O, st, ρ, S, dx, s, r, g⟩ := h1
  dsimp only at g
  split at g
  · rename_i kd k e1 e2
    obtain ⟨a, kv, h1, h2, h3, _⟩ := kv_of s e1
    refine ⟨_, h1, a, valV kv k, rfl, ?_, ?_⟩
    · rw [kv_key e2 r]; exact rd_get h2
    · have hv : (valV kv k).isSome = (dGetK kd k).isSome := by
        rcases h3.find (k := k) with ⟨z1, z2⟩ | ⟨_, _, z1, z2, _⟩ <;> rw [z1, z2] <;> rfl
      rw [hv]
      exact g _ _ FrE.refl s.state rfl
  · exact g.elim
theorem rt_din (hu : X.A.units + 1 < cLine) (hv : PE X d (tVar i)) (ha : RE X E a m) (hb : behindInMarks .In d = false := by rfl) : RT X E (.Compare a [.In] [d] pos) (mDin true i m) := PTimp (pt_cmp (pc_din hu ha hv) hb) fun σ H Q h => by
  refine tG_mono (din_h h) fun y H1 ⟨v, hv, a, o, e, g, q⟩ => ⟨v, hv, a, o, e, g, _, rfl, ?_⟩
  rwa [beq_true] at q
theorem rt_dnotin (hu : X.A.units + 1 < cLine) (hv : PE X d (tVar i)) (ha : RE X E a m) (hb : behindInMarks .NotIn d = false := by rfl) : RT X E (.Compare a [.NotIn] [d] pos) (mDin false i m) := PTimp (pt_cmp (pc_dnotin hu ha hv) hb) fun σ H Q h => by
  refine tG_mono (din_h h) fun y H1 ⟨v, hv, a, o, e, g, q⟩ => ⟨v, hv, a, o, e, g, _, rfl, ?_⟩
  have z : (!o.isSome) = (o.isSome == false) := by cases o <;> rfl
  rwa [z]
theorem re_dget (hu : X.A.units + 1 < cLine) (hv : PE X d (tVar i)) (ha : RE X E a m) (hs : NoSl a) : RE X E (.Subscript d a pos) (mDget i m) := PEimp (pe_dget hu hv ha hs) fun σ H Q ⟨O, st, ρ, S, s, g⟩ => by
  unfold mDget at g
  split at g
  · exact g.elim
  · rename_i kd e1
    obtain ⟨a, kv, h1, h2, h3, h4⟩ := kv_of s e1
    refine ⟨_, h1, O, st, ρ, S, s, ?_⟩
    unfold bnd at g
    cases em : m ρ S with
    | exc x S' => rw [em] at g; exact g
    | bad => rw [em] at g; exact g
    | ok dx S' =>
      rw [em] at g
      dsimp only at g
      refine fun y H1 f sq r => ?_
      cases e2 : keyD dx with
      | none => rw [e2] at g; exact g.elim
      | some k =>
        rw [e2] at g
        dsimp only at g
        cases e3 : dGetK kd k with
        | none => rw [e3] at g; exact g.elim
        | some dv =>
          rw [e3] at g
          rcases h3.find (k := k) with ⟨z1, _⟩ | ⟨d', v, z1, z2, z3⟩
          · rw [z1] at e3; cases e3
          · rw [z1] at e3; cases e3
            refine ⟨a, v, rfl, ?_, g v H1 f sq (z3.frm f.frm)⟩
            rw [kv_key e2 r, ← z2]
            exact rd_get (rd_frE f h4 h2)
theorem rs_dput (hu : X.A.units + 1 < cLine) (hv : PE X d (tVar i)) (hb : RE X E b mv) (ha : RE X E a mk) (hs : swapsWith b (some (.Subscript d a p2)) pos.line X.env = pure false := by rfl) :
    RS1 X E (.Assign [.Subscript d a p2] b pos) (sDput i mv mk) := PSimp (ps_dput hu hv ha hb hs) fun D σ H h => by
  refine tG_mono (tS_sE h) fun v H1 h1 => ?_
  obtain ⟨O, st, ρ, S, dv, s, r, g⟩ := h1
  dsimp only at g
  split at g
  · rename_i kd e1
    obtain ⟨w, h1, q⟩ := s.slot i _ e1
    cases q with
    | ownd hp kr =>
      rename_i p kv
      refine ⟨_, h1, O, st, ρ, S, s, ?_⟩
      unfold sE at g
      cases em : mk ρ S with
      | exc x S' => rw [em] at g; exact fun c dx H' f q r => g c dx H' (fun a o h n _ => f a o h n) q r
      | bad => rw [em] at g; exact g
      | ok dx S' =>
        rw [em] at g
        dsimp only at g
        refine fun y H2 f sq ry => ?_
        split at g
        · rename_i k e2
          by_cases hz : kd.length < 16777216
          case neg => rw [if_neg hz] at g; exact g.elim
          rw [if_pos hz] at g
          have s2 := s.ext f sq
          have hp2 : H2 p = some (.dK kv) := f _ _ hp (s.far _ ⟨i, _, e1, trivial, h1⟩).2
          obtain ⟨s3, f3⟩ := s2.change e1 trivial h1 (.dic ((kr.frm f.frm).put e2 (r.frm f.frm)))
          refine ⟨p, _, rfl, .inl ⟨kv, k, hp2, ?_, ?_, rfl⟩, g _ _ s3 (f.fs.trans f3 s2.sin)⟩
          · exact kv_key e2 ry
          · rw [kr.len, line_eq]; exact hz
        · exact g.elim
  · exact g.elim
/-! ### the last one is taken out -/
def sPop (i : Nat) (g : D → MS) : MS := fun ρ S => match ρ[i]? with
  | some (.own ds) => match ds[ds.length - 1]? with
    | some d => sSeq (sTg (g d)) sNil (ρ.set i (.own ds.dropLast)) S
    | none => .bad
  | _ => .bad
theorem dropLast_frm {K : PySem.W.Frag} {mg : Str → Option Value} {st : StA} {H : Hp} {A : Addr → Prop} {vs : List V} {ds : List D} (r : Reps K mg st H A vs ds) : Reps K mg st H A vs.dropLast ds.dropLast := r.dropLast
theorem rs_pop {tg c : Expr} {g : D → MS} (hg : RG X E tg g) (hc : PE X c (tBM0 X.K "list" rPop (tVar i))) (hs : swapsWithSole [tg] c pos.line X.env = pure false := by rfl) (hw : swappedStores [tg] c X.env = pure none := by rfl)
    (h1 : (assignEach [tg] X.env).map (·.2) = [assign tg X.env] := by rfl) : RS1 X E (.Assign [tg] c pos) (sPop i g) := PSimp (ps_asg hc hg hs hw h1) fun D σ H ⟨O, st, ρ, S, s, gg⟩ => by
  unfold sPop at gg
  split at gg
  · rename_i ds e1
    obtain ⟨w, h1, q⟩ := s.slot i _ e1
    cases q with
    | own hp kr =>
      rename_i p vs
      split at gg
      · rename_i d e2
        obtain ⟨v, h2, r⟩ := kr.get _ e2
        obtain ⟨s3, f3⟩ := s.change e1 trivial h1 (.lst kr.dropLast)
        refine ⟨_, h1, .inl ⟨rfl, _, SqL.of hp⟩, p, vs, v, rfl, rfl, hp, by rw [kr.length]; exact h2, O, st, _, S, d, s3, r.frm f3.frm, ?_⟩
        have g2 := sTg_h (gg.from f3 s3.sin)
        cases e3 : g d (ρ.set i (.own ds.dropLast)) S with
        | nx ρ' S' =>
          rw [e3] at g2
          refine fun σ' H' s' f' => ?_
          obtain ⟨O2, st2, ρ2, S2, s2, g3⟩ := g2 σ' H' s' f'
          exact g3 σ' H' s2 FrS.refl
        | bk ρ' S' => rw [e3] at g2; exact g2
        | ct ρ' S' => rw [e3] at g2; exact g2
        | rt d S' => rw [e3] at g2; exact g2
        | exc x S' => rw [e3] at g2; exact g2
        | bad => rw [e3] at g2; exact g2
      · exact gg.elim
  · exact gg.elim
end
end Pf
end

section
set_option Elab.async false
set_option linter.all false
set_option maxRecDepth 100000
namespace PySem
open Sem (wp)
set_option maxHeartbeats 1000000 in
theorem meets_enum1 {v : Value} {o : Obj} {H : Heap → Prop} (B : Begins v o H) :
    Meets (Builtin.«enumerate.__new__» ⟨[.type "enumerate", v], []⟩) (fun _ R s => H s.heap ∧
      R (.ok (.ret (.ref (s.heap.push o).objs.size))) { s with heap := (s.heap.push o).push { cls := .type "enumerate", data := .fields #[.none, .bool false, .ref s.heap.objs.size, rawInt 0, .none, .none] } }) :=
  .of_wp fun prog w A R s hh => by
    obtain ⟨hp, g, d, tk, os⟩ := s
    obtain ⟨h1, hR⟩ := hh
    have hsub := sub_enumerate
    have iterV : ∀ {A' : Around} {E : Value → Shared → Prop} {Q : Value → Shared → Prop}, Q (.ref hp.objs.size) ⟨hp.push o, g, d, tk, os⟩ → wpAny (model prog w) A' (pyIter v) Q E ⟨hp, g, d, tk, os⟩ := fun q => B.iter prog w _ _ ⟨hp, g, d, tk, os⟩ _ h1 q
    wp_walk using iterV
    refine wpAny_stack_any fun sk => wpAny_pure ?_
    split
    · rename_i c _ _ _ _ _
      cases (c == Value.type "enumerate")
      · wp_walk using iterV
        exact ⟨_, rfl, hR⟩
      · wp_walk using iterV
        exact ⟨_, rfl, hR⟩
    · wp_walk using iterV
      exact ⟨_, rfl, hR⟩
section
variable {prog : Program} {w : World} {A : Around} {E : Value → Shared → Prop} {s : Shared}
theorem call_enum1 {v : Value} {o : Obj} {H : Heap → Prop} {Q : Value → Shared → Prop} (B : Begins v o H) (h1 : H s.heap)
    (hQ : ∀ h2, IsEnum h2 (s.heap.objs.size + 1) s.heap.objs.size 0 .none → h2.get? s.heap.objs.size = some o → (∀ b u, s.heap.get? b = some u → h2.get? b = some u) → Q (.ref (s.heap.objs.size + 1)) { s with heap := h2 }) :
    wpAny (model prog w) A (call (.type "enumerate") [v]) Q E s := by
  refine callType_new F.called_enumerate (by decide) (F.typeCall_enumerate_1 _) (F.newCall_enumerate_1 _) (fun obj => F.args_object_init_2 obj _) F.entry_enumerate_new (meets_enum1 B) ⟨h1, ?_⟩
  have sz1 : (s.heap.push o).objs.size = s.heap.objs.size + 1 := Heap.size_push ..
  show _ ∧ _
  rw [sz1]
  have e2 : IsEnum ((s.heap.push o).push { cls := .type "enumerate", data := .fields #[.none, .bool false, .ref s.heap.objs.size, rawInt 0, .none, .none] }) (s.heap.objs.size + 1) s.heap.objs.size 0 .none := by
    have := Heap.get?_push_size (s.heap.push o) (o := { cls := .type "enumerate", data := .fields #[.none, .bool false, .ref s.heap.objs.size, rawInt 0, .none, .none] }) rfl
    rw [sz1] at this
    exact this
  exact ⟨⟨_, e2, rfl⟩, hQ _ e2 (Heap.get?_push_of_some _ (Heap.get?_push_size _ B.free)) fun b u x => Heap.get?_push_of_some _ (Heap.get?_push_of_some _ x)⟩
end
end PySem
namespace Pf
open PySem PySem.Spec L2 PyProof.Rows
variable [TabsC]

/-! ### enumerate -/
/-- the tuple at a, each item in a new pair -/
def IteT (K : PySem.W.Frag) (a : Addr) : It :=
  ⟨fun i H => ∃ (xs : List V) (x : V), SqT K H a xs ∧ xs[i]? = some x, fun i H v H' => ∃ T x, v = .ref T ∧ H T = none ∧ H' = upd H T (.tup [.int (i : Nat), x]) ∧ ∀ xs, SqT K H a xs → xs[i]? = some x, fun i H => ∃ xs : List V, SqT K H a xs ∧ xs.length ≤ i⟩
theorem in1_calm {A : Around} (h : A.handled = none) : A.in1.handled = none := h
theorem turn_enumT {P : Program} {w : World} {K : PySem.W.Frag} {elts : List Expr} {kk : Nat} {tpos : Pos} (a e it : Addr) :
    Turn P w K (.Tuple elts kk tpos) (IteT K a) [e, it] e (fun i h => (∃ old, IsEnum h e it ((i : Nat) : Int) old) ∧ h.IsTupleIter it a i ∧ e ≠ it) where
  mem := by simp
  obj := fun i h sn b hb => by
    obtain ⟨⟨old, g1⟩, ⟨u, g2, g3, g4⟩, _⟩ := sn
    rcases (show b = e ∨ b = it by simpa using hb) with z | z
    · rw [z]; exact ⟨_, g1, fun v q => nomatch q⟩
    · rw [z]; exact ⟨u, g2, fun v q => by rw [g4] at q; cases q⟩
  keep := fun i h h' sn k => let ⟨⟨old, g1⟩, g2, ne⟩ := sn; ⟨⟨old, k e (by simp) _ g1⟩, g2.at fun o q => k it (by simp) o q, ne⟩
  item := by
    intro X e1 e2 e3 calm i pins s σ H Ex I hf sn go
    subst e1 e2 e3
    obtain ⟨⟨old, g1⟩, g2, ne⟩ := sn
    obtain ⟨xs, x, hq, hx⟩ := go
    obtain ⟨us, rv, tp, hz⟩ := I.tuple hq
    obtain ⟨u, hu, ru⟩ := rv.get hx
    have le : e < s.heap.objs.size := Heap.lt_size g1
    have li : it < s.heap.objs.size := by obtain ⟨_, q, _⟩ := g2; exact Heap.lt_size q
    have ea : e ≠ a := fun z => by
      obtain ⟨o, q1, q2, _⟩ := (show s.heap.IsTuple a us.toArray from tp)
      rw [← z, g1] at q1
      cases q1
      injection q2 with q2
      exact absurd q2 (by decide)
    have ia : a ≠ it := fun z => by
      obtain ⟨o, q1, q2, _⟩ := (show s.heap.IsTuple a us.toArray from tp)
      obtain ⟨o2, q3, q4, _⟩ := g2
      rw [z, q3] at q1
      cases q1
      rw [q4] at q2
      exact absurd q2 (by decide)
    refine wpAny_pyNext_enum_itemD (Draws.tuple (in1_calm (I.ok.hd calm)) it a ia us.toArray) g1 ⟨g2, tp⟩ (i := i) ?_ ne (by simp [ne, ea]) fun y h' tk hP ho hs' hT hsz hk => ?_
    · have := (List.getElem?_eq_some_iff.mp hu).1
      simpa using this
    have ey : y = u := by
      have hP : us.toArray[i]? = some y := hP
      rw [List.getElem?_toArray, hu] at hP
      exact (Option.some.inj hP).symm
    subst ey
    refine ⟨_, rfl, wpAny_letOwnedTupleGo_enum (s := { s with heap := h', toks := tk + 1 }) ho fun h2 g3 sb => ?_⟩
    have hT2 : h2.get? s.heap.objs.size = some { cls := .type "tuple", data := .seq #[.int i tk, y] } := (sb.2 _ (Nat.ne_of_gt le)).trans hT
    have ok : ObjOk X.prog X.w (upd H s.heap.objs.size (.tup [.int (i : Nat), x])) h2 s.heap.objs.size (.tup [.int (i : Nat), x]) :=
      ⟨by show 2 ≤ sizeLine; decide, [.int i tk, y], .cons ⟨_, rfl⟩ (.cons ru .nil), ⟨_, hT2, rfl, _, rfl⟩⟩
    have I1 : Inv X pins σ (upd H s.heap.objs.size (.tup [.int (i : Nat), x])) { s with heap := h2, toks := tk + 1 } :=
      I.turnedNew (ch := [e, it]) (fun b o hb q => (sb.2 b (fun z => hb (by simp [z]))).trans (hk b o (fun z => hb (by simp [z])) (fun z => hb (by simp [z])) q)) hf (Nat.le_refl _) ok
    refine ⟨.ref s.heap.objs.size, _, I1, rfl, ⟨_, x, rfl, I.hok.fresh (Nat.le_refl _), rfl, fun ys hy => by rw [I.tuple_inj hy hq]; exact hx⟩, ⟨⟨y, ?_⟩, hs'.1.at fun o q => (sb.2 it (Ne.symm ne)).trans q, ne⟩, fun b hb => ?_⟩
    · rw [show ((i + 1 : Nat) : Int) = (i : Int) + 1 by omega]
      exact g3
    · have lb : b < s.heap.objs.size := by
        rcases (show b = e ∨ b = it by simpa using hb) with z | z
        · rw [z]; exact le
        · rw [z]; exact li
      rw [upd_ne (Nat.ne_of_lt lb)]
      exact (hf b hb).1
  done := by
    intro X e1 e2 e3 calm i pins s σ H Ex I hf sn sp
    subst e1 e2 e3
    obtain ⟨⟨old, g1⟩, g2, ne⟩ := sn
    obtain ⟨xs, hq, hx⟩ := sp
    obtain ⟨us, rv, tp, hz⟩ := I.tuple hq
    obtain ⟨f0, f1, f2, f3, f4, f5⟩ := hf it (by simp)
    have ia : a ≠ it := fun z => by
      obtain ⟨o, q1, q2, _⟩ := (show s.heap.IsTuple a us.toArray from tp)
      obtain ⟨o2, q3, q4, _⟩ := g2
      rw [z, q3] at q1
      cases q1
      rw [q4] at q2
      exact absurd q2 (by decide)
    have hl := rv.length
    refine wpAny_pyNext_enum_endD (St := fun j h => h.IsTupleIter it a i ∧ h.IsTuple a us.toArray) (fp := [it, a]) (n := 0) (P := fun _ _ => True) ⟨fun _ _ sn => let ⟨o, q, _⟩ := sn.1; ⟨o, q⟩, fun _ _ _ sn k => ⟨sn.1.at fun o q => k it (by simp) o q, sn.2.at fun o q => k a (by simp) o q⟩,
      fun _ _ _ _ z => absurd z (Nat.not_lt_zero _), fun s Q E sn hE => wpAny_nextOf_tuple_end (in1_calm (I.ok.hd calm)) sn.1 sn.2 (by simp; omega) hE⟩ g1 ⟨g2, tp⟩ fun h' eb => ⟨rfl, I.turned (t' := s.toks) (fun b o hb q => eb b o hb q) f0 f1 f3 f4 f5⟩
  self := fun A i s Q E sn hq => let ⟨⟨_, g1⟩, _⟩ := sn; wpAny_pyIter_enum g1 hq
def iEnumA (K : PySem.W.Frag) (ta : TA) : TI := fun σ H R => ta σ H fun vs H1 => ∃ a xs, vs = [.ref a] ∧ ((SqL K H1 a xs ∧ R (Ite K a) H1) ∨ (SqT K H1 a xs ∧ R (IteT K a) H1))
theorem pi_enumA {X : Cx} {e : Expr} {ta : TA} {p pos tpos : Pos} {elts : List Expr} {kk : Nat} (hg : Gl X "enumerate") (hm : X.mg "enumerate" = none) (ha : PA X [e] ta) (hs : starEach [e] X.env = [(false, eval e X.env)] := by rfl) :
    PI X (.Tuple elts kk tpos) (.Call (.Name "enumerate" p) [e] [] pos) (iEnumA X.K ta) := by
  refine ⟨fun pins s σ H R I hw => ?_⟩
  refine Call_ (ld_blt I hg hm boot_enumerate (PyProof.Rows.callWith_type1 (thn (ha.run pos pins s σ H _ I hw) fun us s1 ⟨vs, H1, I1, r1, q1⟩ => ?_) hs rfl))
  obtain ⟨a, xs, ex, q⟩ := q1
  subst ex
  cases r1 with
  | cons r rr =>
  cases rr
  cases r
  have new2 : ∀ b, b ∈ [s1.heap.objs.size + 1, s1.heap.objs.size] → s1.heap.objs.size ≤ b := fun b hb => by
    rcases (show b = s1.heap.objs.size + 1 ∨ b = s1.heap.objs.size by simpa using hb) with z | z
    · rw [z]; exact Nat.le_add_right _ _
    · rw [z]; exact Nat.le_refl _
  rcases q with ⟨hq, q⟩ | ⟨hq, q⟩
  · obtain ⟨us, rv, lp, hz⟩ := I1.list hq
    refine call_enumerate_list lp.isList fun h2 he hit hsz hk => wpAny_pyIter_enum he ?_
    have I2 : Inv X pins σ H1 { s1 with heap := h2 } := I1.kept (t' := s1.toks) hk
    exact ⟨s1.heap.objs.size + 1, [s1.heap.objs.size + 1, s1.heap.objs.size], _, _, H1, rfl, I2, turn_enum a (s1.heap.objs.size + 1) s1.heap.objs.size, ⟨⟨.none, he⟩, hit, Nat.succ_ne_self _⟩, fun b hb => I1.fpOk (new2 b hb) (I1.hok.fresh (new2 b hb)), q⟩
  · obtain ⟨us, rv, tp, hz⟩ := I1.tuple hq
    refine call_enum1 (begins_tuple a us.toArray) tp fun h2 he hit hk => wpAny_pyIter_enum he ?_
    have I2 : Inv X pins σ H1 { s1 with heap := h2 } := I1.kept (t' := s1.toks) hk
    exact ⟨s1.heap.objs.size + 1, [s1.heap.objs.size + 1, s1.heap.objs.size], _, _, H1, rfl, I2, turn_enumT a (s1.heap.objs.size + 1) s1.heap.objs.size, ⟨⟨.none, he⟩, ⟨_, hit, rfl, rfl⟩, Nat.succ_ne_self _⟩, fun b hb => I1.fpOk (new2 b hb) (I1.hok.fresh (new2 b hb)), q⟩
end Pf
end

section
set_option Elab.async false
set_option linter.all false
set_option maxRecDepth 100000
namespace Pf
open PySem PySem.Spec L2
variable [TabsC]

def enumD : Nat → List D → List D
  | _, [] => []
  | k, x :: xs => .par [.int (k : Int), x] :: enumD (k + 1) xs
theorem enumD_len : ∀ (k : Nat) (xs : List D), (enumD k xs).length = xs.length
  | _, [] => rfl
  | k, x :: xs => by simp [enumD, enumD_len (k + 1) xs]
theorem enumD_get : ∀ (k : Nat) (xs : List D) (i : Nat), (enumD k xs)[i]? = xs[i]?.map fun x => .par [.int ((k + i : Nat) : Int), x]
  | _, [], i => by simp [enumD]
  | k, x :: xs, 0 => by simp [enumD]
  | k, x :: xs, i + 1 => by
    simp only [enumD, List.getElem?_cons_succ]
    rw [enumD_get (k + 1) xs i]
    have e : k + 1 + i = k + (i + 1) := by omega
    rw [e]
def zipD : List D → List D → List D
  | x :: xs, y :: ys => .par [x, y] :: zipD xs ys
  | _, _ => []
theorem zipD_len : ∀ (xs ys : List D), (zipD xs ys).length = min xs.length ys.length
  | [], _ => by simp [zipD]
  | _ :: _, [] => by simp [zipD]
  | x :: xs, y :: ys => by simp [zipD, zipD_len xs ys]
theorem zipD_get : ∀ (xs ys : List D) (i : Nat) (d : D), (zipD xs ys)[i]? = some d → ∃ x y, xs[i]? = some x ∧ ys[i]? = some y ∧ d = .par [x, y]
  | [], _, i, d, h => by simp [zipD] at h
  | _ :: _, [], i, d, h => by simp [zipD] at h
  | x :: xs, y :: ys, 0, d, h => by
    simp [zipD] at h
    exact ⟨x, y, rfl, rfl, h.symm⟩
  | x :: xs, y :: ys, i + 1, d, h => by
    simp only [zipD, List.getElem?_cons_succ] at h ⊢
    exact zipD_get xs ys i d h
def mEnum (m : M D) : M (List D) := bnd m fun d => match d with
  | .tup xs => ret (enumD 0 xs)
  | .lst xs => ret (enumD 0 xs)
  | _ => bad
def mZip (ma mb : M D) : M (List D) := bn2 ma mb fun x y => match x, y with
  | .tup xs, .tup ys => ret (zipD xs ys)
  | .lst xs, .lst ys => ret (zipD xs ys)
  | _, _ => bad
def downD (hi : Int) (n : Nat) : List D := (List.range n).map fun i => .int (hi - (i : Nat))
def mRngD (ma mb : M D) : M (List D) := bn2 ma mb fun x y => match x, y with
  | .int i, .int j => if (big i && big j) = true then ret (downD i (i - j).toNat) else bad
  | _, _ => bad
section
variable {K : PySem.W.Frag} {mg : Str → Option Value} {st : StA} {F : (Addr → Prop) → Hp → Prop}
theorem rep_pair {A : Addr → Prop} {H : Hp} {T : Addr} {v w : V} {d e : D} (hT : H T = none) (av : ∀ a, A a → H a ≠ none) (r : Rep K mg st H A v d) (q : Rep K mg st H A w e) : (∀ a o, H a = some o → upd H T (.tup [v, w]) a = some o) ∧ Rep K mg st (upd H T (.tup [v, w])) A (.ref T) (.par [d, e]) := by
  have k : ∀ a o, H a = some o → upd H T (.tup [v, w]) a = some o := fun a o h => by rw [upd_ne (ne_of_none h hT)]; exact h
  have f : Frm A A H (upd H T (.tup [v, w])) := ⟨fun a o h _ => k a o h, fun a q => .inl q⟩
  exact ⟨k, .par (fun z => av _ z hT) upd_same (.cons (r.frm f) (.cons (q.frm f) .nil))⟩
theorem wd_enumL {a : Addr} {vs : List V} {ds : List D} (h : ∀ A H, F A H → SqL K H a vs ∧ Reps K mg st H A vs ds) : WD K mg st F (Ite K a) (enumD 0 ds) where
  goes := fun i A H hi f => by
    obtain ⟨h1, h2⟩ := h A H f
    rw [enumD_len, ← h2.length] at hi
    exact ⟨vs, vs[i], h1, by simp [hi]⟩
  stops := fun A H f => by
    obtain ⟨h1, h2⟩ := h A H f
    exact ⟨vs, h1, by rw [enumD_len, h2.length]; exact Nat.le_refl _⟩
  yld := fun i A H x H' d hd f av y => by
    obtain ⟨h1, h2⟩ := h A H f
    obtain ⟨T, z, rfl, hT, rfl, hz⟩ := y
    obtain ⟨dx, e1, r⟩ := h2.getV i (hz vs h1)
    rw [enumD_get, e1] at hd
    cases hd
    rw [Nat.zero_add]
    exact rep_pair hT av (.int _) r
theorem wd_enumT {a : Addr} {vs : List V} {ds : List D} (h : ∀ A H, F A H → SqT K H a vs ∧ Reps K mg st H A vs ds) : WD K mg st F (IteT K a) (enumD 0 ds) where
  goes := fun i A H hi f => by
    obtain ⟨h1, h2⟩ := h A H f
    rw [enumD_len, ← h2.length] at hi
    exact ⟨vs, vs[i], h1, by simp [hi]⟩
  stops := fun A H f => by
    obtain ⟨h1, h2⟩ := h A H f
    exact ⟨vs, h1, by rw [enumD_len, h2.length]; exact Nat.le_refl _⟩
  yld := fun i A H x H' d hd f av y => by
    obtain ⟨h1, h2⟩ := h A H f
    obtain ⟨T, z, rfl, hT, rfl, hz⟩ := y
    obtain ⟨dx, e1, r⟩ := h2.getV i (hz vs h1)
    rw [enumD_get, e1] at hd
    cases hd
    rw [Nat.zero_add]
    exact rep_pair hT av (.int _) r
theorem wd_zipL {a b : Addr} {vs ws : List V} {ds es : List D} (h : ∀ A H, F A H → (SqL K H a vs ∧ Reps K mg st H A vs ds) ∧ SqL K H b ws ∧ Reps K mg st H A ws es) : WD K mg st F (Itz K a b) (zipD ds es) where
  goes := fun i A H hi f => by
    obtain ⟨⟨h1, h2⟩, h3, h4⟩ := h A H f
    rw [zipD_len, ← h2.length, ← h4.length] at hi
    have i1 : i < vs.length := by omega
    have i2 : i < ws.length := by omega
    exact ⟨vs, ws, vs[i], ws[i], h1, h3, by simp [i1], by simp [i2]⟩
  stops := fun A H f => by
    obtain ⟨⟨h1, h2⟩, h3, h4⟩ := h A H f
    exact ⟨vs, ws, h1, h3, by rw [zipD_len, h2.length, h4.length]; omega⟩
  yld := fun i A H x H' d hd f av y => by
    obtain ⟨⟨h1, h2⟩, h3, h4⟩ := h A H f
    obtain ⟨T, z, u, rfl, hT, rfl, hz, hu⟩ := y
    obtain ⟨dx, e1, r⟩ := h2.getV i (hz vs h1)
    obtain ⟨dy, e2, q⟩ := h4.getV i (hu ws h3)
    obtain ⟨p, t, e3, e4, rfl⟩ := zipD_get _ _ _ _ hd
    rw [e1] at e3; cases e3
    rw [e2] at e4; cases e4
    exact rep_pair hT av r q
theorem wd_zipT {a b : Addr} {vs ws : List V} {ds es : List D} (h : ∀ A H, F A H → (SqT K H a vs ∧ Reps K mg st H A vs ds) ∧ SqT K H b ws ∧ Reps K mg st H A ws es) : WD K mg st F (RZ.ItzT K a b) (zipD ds es) where
  goes := fun i A H hi f => by
    obtain ⟨⟨h1, h2⟩, h3, h4⟩ := h A H f
    rw [zipD_len, ← h2.length, ← h4.length] at hi
    have i1 : i < vs.length := by omega
    have i2 : i < ws.length := by omega
    exact ⟨vs, ws, vs[i], ws[i], h1, h3, by simp [i1], by simp [i2]⟩
  stops := fun A H f => by
    obtain ⟨⟨h1, h2⟩, h3, h4⟩ := h A H f
    exact ⟨vs, ws, h1, h3, by rw [zipD_len, h2.length, h4.length]; omega⟩
  yld := fun i A H x H' d hd f av y => by
    obtain ⟨⟨h1, h2⟩, h3, h4⟩ := h A H f
    obtain ⟨T, z, u, rfl, hT, rfl, hz, hu⟩ := y
    obtain ⟨dx, e1, r⟩ := h2.getV i (hz vs h1)
    obtain ⟨dy, e2, q⟩ := h4.getV i (hu ws h3)
    obtain ⟨p, t, e3, e4, rfl⟩ := zipD_get _ _ _ _ hd
    rw [e1] at e3; cases e3
    rw [e2] at e4; cases e4
    exact rep_pair hT av r q
theorem wd_down {lo : Int} {n : Nat} : WD K mg st F (Itc lo (-1) n) (downD lo n) where
  goes := fun i A H hi f => (walk_rangeC (lo := lo) (c := -1) (n := n)).goes i H (by simpa [downD] using hi) trivial
  stops := fun A H f => by
    have := (walk_rangeC (lo := lo) (c := -1) (n := n)).stops H trivial
    simpa [downD] using this
  yld := fun i A H x H' d hd f _ y => by
    have hi : i < n := by
      have := (List.getElem?_eq_some_iff.mp hd).1
      simpa [downD] using this
    obtain ⟨rfl, rfl⟩ := (walk_rangeC (lo := lo) (c := -1) (n := n)).yields i H x H' hi trivial y
    unfold downD at hd
    rw [List.getElem?_map, List.getElem?_range hi] at hd
    cases hd
    have e : lo + (i : Nat) * (-1) = lo - (i : Nat) := by omega
    dsimp only
    rw [e]
    exact ⟨fun _ _ z => z, .int _⟩
end
section
variable {X : Cx} {E : XK} {e a b c elt iter tg : Expr} {m ma mb : M D} {pos p1 p2 tpos : Pos} {elts : List Expr} {kk : Nat}
theorem ri_enum (hg : Gl X "enumerate") (hm : X.mg "enumerate" = none) (ha : RE X E a m) (hs : starEach [a] X.env = [(false, eval a X.env)] := by rfl) : RIf X E (.Tuple elts kk tpos) (.Call (.Name "enumerate" p1) [a] [] pos) (mEnum m) :=
  PIimp (pi_enumA hg hm (pa_cons ha pa_nil (by rw [hs]; rfl)) hs) fun σ H Q h => by
    refine tG_mono (tG_bnd (R1 := RfD X.K X.mg) h) fun x H1 h1 => ?_
    obtain ⟨O, st, ρ, S, d, s, r, g⟩ := h1
    cases d <;> try (exact g.elim)
    · obtain ⟨p, vs, rfl, hh⟩ := SqT.frm (A' := AV O st σ ρ) (H' := H1) r
      exact ⟨p, vs, rfl, .inr ⟨(hh _ _ Frm.refl).1, g _ _ FrE.refl s.state (wd_enumT fun A H f => hh A H f)⟩⟩
    · cases r with
      | lst n h r => exact ⟨_, _, rfl, .inl ⟨SqL.of h, g _ _ FrE.refl s.state (wd_enumL fun A H f => ⟨SqL.of (f.keep _ _ h n), r.frm f⟩)⟩⟩
theorem ri_zip (hg : Gl X "zip") (hm : X.mg "zip" = none) (ha : RE X E a ma) (hb : RE X E b mb) (hs : starEach [a, b] X.env = (false, eval a X.env) :: starEach [b] X.env := by rfl) (hs2 : starEach [b] X.env = (false, eval b X.env) :: starEach [] X.env := by rfl) (hpl : (backTo pos (starEach [b] X.env)).any (·.1) = false := by rfl) :
    RIf X E (.Tuple elts kk tpos) (.Call (.Name "zip" p1) [a, b] [] pos) (mZip ma mb) :=
  PIimp (RZ.pi_zipA hg hm (pa_cons ha (pa_cons hb pa_nil hs2) hs) hs hpl) fun σ H Q h => by
    refine tG_mono (tG_bn2 RfD.stable h) fun x H1 h1 => tG_mono h1 fun y H2 h2 => ?_
    obtain ⟨O, st, ρ, S, d1, d2, s, r1, r2, g⟩ := h2
    cases d1 <;> try (exact g.elim)
    · cases d2 <;> try (exact g.elim)
      obtain ⟨p, vs, rfl, hh⟩ := SqT.frm (A' := AV O st σ ρ) (H' := H2) r1
      obtain ⟨q, ws, rfl, kk⟩ := SqT.frm (A' := AV O st σ ρ) (H' := H2) r2
      exact ⟨p, q, vs, ws, rfl, .inr ⟨(hh _ _ Frm.refl).1, (kk _ _ Frm.refl).1, g _ _ FrE.refl s.state (wd_zipT fun A H f => ⟨hh A H f, kk A H f⟩)⟩⟩
    · cases d2 <;> try (exact g.elim)
      cases r1 with
      | lst n h r =>
        cases r2 with
        | lst n' h' r' => exact ⟨_, _, _, _, rfl, .inl ⟨SqL.of h, SqL.of h', g _ _ FrE.refl s.state (wd_zipL fun A H f => ⟨⟨SqL.of (f.keep _ _ h n), r.frm f⟩, SqL.of (f.keep _ _ h' n'), r'.frm f⟩)⟩⟩
theorem ri_rngD {j : Nat} {p3 p4 : Pos} (hg : Gl X "range") (hm : X.mg "range" = none) (ha : RQ X E a ma) (hb : RQ X E b mb)
    (hs : starEach [a, b, .UnaryOp .USub (.Constant (.int 1) j p3) p4] X.env = (false, eval a X.env) :: starEach [b, .UnaryOp .USub (.Constant (.int 1) j p3) p4] X.env := by rfl) (hs2 : starEach [b, .UnaryOp .USub (.Constant (.int 1) j p3) p4] X.env = (false, eval b X.env) :: starEach [.UnaryOp .USub (.Constant (.int 1) j p3) p4] X.env := by rfl)
    (hs3 : starEach [.UnaryOp .USub (.Constant (.int 1) j p3) p4] X.env = (false, eval (.UnaryOp .USub (.Constant (.int 1) j p3) p4) X.env) :: starEach [] X.env := by rfl) (hpl : (backTo pos (starEach [b, .UnaryOp .USub (.Constant (.int 1) j p3) p4] X.env)).any (·.1) = false := by rfl) :
    RIf X E tg (.Call (.Name "range" p1) [a, b, .UnaryOp .USub (.Constant (.int 1) j p3) p4] [] pos) (mRngD ma mb) :=
  PIimp (pi_range3 hg hm (pa_cons ha (pa_cons hb (pa_cons (pe_un un_neg pe_int) pa_nil hs3) hs2) hs) hs hpl) fun σ H Q h => by
    refine tG_mono (tG_bn2 RfQ.stable h) fun x H1 h1 => tG_mono h1 fun y H2 h2 => ?_
    obtain ⟨O, st, ρ, S, d1, d2, s, r1, r2, g⟩ := h2
    cases d1 <;> try (exact g.elim)
    cases d2 <;> try (exact g.elim)
    rename_i i j
    cases q_int r1
    cases q_int r2
    dsimp only at g
    by_cases hb : (big i && big j) = true
    · rw [if_pos hb] at g
      obtain ⟨h1, h2⟩ := Bool.and_eq_true_iff.mp hb
      obtain ⟨b1, b2⟩ := big_iff.mp h1
      obtain ⟨b3, b4⟩ := big_iff.mp h2
      exact ⟨_, rfl, i, j, -1, _, rfl, RgC.neg b1 b2 b3 b4, g _ _ FrE.refl s.state wd_down⟩
    · rw [if_neg hb] at g
      exact g.elim
/-- never reached -/
def sBad : MS := fun _ _ => .bad
theorem rs_bad {st : Stmt} : RS1 X E st sBad := ⟨fun pins s σ H D I h => by
  obtain ⟨O, st, ρ, S, s, g⟩ := h
  exact g.elim⟩
theorem rss_bad {sts : List Stmt} : RSs X E sts sBad := ⟨fun pins s σ H D I h => by
  obtain ⟨O, st, ρ, S, s, g⟩ := h
  exact g.elim⟩
theorem re_bad : RE X E e bad := ⟨fun pins s σ H Q I h => by
  obtain ⟨O, st, ρ, S, s, g⟩ := h
  exact g.elim⟩
end
end Pf
end

section
set_option Elab.async false
set_option linter.all false
set_option maxRecDepth 100000
namespace Pf
open PySem PySem.Spec L2
variable [TabsC]

/-! ### a comprehension over the keys of a dict of one's own -/
def mKeys (i : Nat) : M (List D) := fun ρ S => match ρ[i]? with
  | some (.lckd kd) => .ok (kd.map (·.1)) S
  | _ => .bad
def mLock (i : Nat) (m : M (List D)) : M (List D) := fun ρ S => match ρ[i]? with
  | some (.ownd kd) => match m (ρ.set i (.lckd kd)) S with
    | .ok ds S' => .ok ds S'
    | _ => .bad
  | _ => .bad
theorem KReps.keyAt {K : PySem.W.Frag} {mg : Str → Option Value} {st : StA} {H : Hp} {A : Addr → Prop} {kv : List (Key × V)} {kd : List (D × D)} (h : KReps K mg st H A kv kd) : ∀ (i : Nat) (k : Key) (v : V) (a : D), kv[i]? = some (k, v) → (kd.map (·.1))[i]? = some a → keyD a = some k := by
  induction h with
  | nil => intro i k v a h1 _; simp at h1
  | @cons k' v' a' d' kv kd e r t ih =>
    intro i k v a h1 h2
    cases i with
    | zero => simp at h1 h2; rw [← h2, ← h1.1]; exact e
    | succ i => exact ih i k v a (by simpa using h1) (by simpa using h2)
theorem rep_key {K : PySem.W.Frag} {mg : Str → Option Value} {st : StA} {H : Hp} {A : Addr → Prop} {a : D} {k : Key} (h : keyD a = some k) : Rep K mg st H A (kV k) a := by
  cases a <;> try (cases h; done)
  · cases h; exact .int _
  · cases h; exact .str _
theorem wd_keys {K : PySem.W.Frag} {mg : Str → Option Value} {st : StA} {F : (Addr → Prop) → Hp → Prop} {d : Addr} {ob : Obj} {kv : List (Key × V)} {its : List D} (hl : kv.length = its.length) (hk : ∀ (i : Nat) (k : Key) (v : V) (a : D), kv[i]? = some (k, v) → its[i]? = some a → keyD a = some k)
    (h : ∀ A H, F A H → H d = some (.frz ob (.dK kv))) : WD K mg st F (Itk d ob kv) its where
  goes := fun i A H hi f => ⟨h A H f, by rw [hl]; exact hi⟩
  stops := fun A H f => ⟨h A H f, Nat.le_of_eq hl⟩
  yld := fun i A H x H' a ha f _ y => by
    obtain ⟨rfl, k, v, e1, rfl⟩ := y
    exact ⟨fun _ _ z => z, rep_key (hk i k v a e1 ha)⟩
section
variable {X : Cx} {E : XK} {e a b c d elt iter tg : Expr} {es : List Expr} {m : M (List D)} {ma mb : M D} {pos p1 p2 tpos : Pos} {i : Nat}
theorem ri_keys (hv : PE X d (tVar i)) : RIc X E tg d (mKeys i) := PIimp (pi_keys hv) fun σ H Q ⟨O, st, ρ, S, s, g⟩ => by
  unfold mKeys at g
  split at g
  · rename_i kd e1
    obtain ⟨w, h1, q⟩ := s.slot i _ e1
    cases q with
    | lckd hp kr =>
      have n := (s.far _ ⟨i, _, e1, trivial, h1⟩).2
      exact ⟨_, h1, _, _, rfl, .inl ⟨_, hp, g _ _ FrE.refl s.state (wd_keys (by rw [kr.len]; simp) kr.keyAt fun A H f => f.1 _ _ hp n)⟩⟩
  · exact g.elim
theorem rn_lock (h : RN X E e m) : RN X E e (mLock i m) := PEimp (pe_lock h) fun σ H Q ⟨O, st, ρ, S, s, g⟩ => by
  unfold mLock at g
  split at g
  · rename_i kd e1
    obtain ⟨w, h1, q⟩ := s.slot i _ e1
    cases q with
    | ownd hp kr =>
      rename_i p kv
      have n := (s.far _ ⟨i, _, e1, trivial, h1⟩).2
      have ow : ownA σ ρ p := ⟨i, _, e1, trivial, h1⟩
      refine ⟨p, _, hp, trivial, fun od => ?_⟩
      obtain ⟨s2, f2⟩ := s.change e1 trivial h1 (.frz (ob := od) kr)
      refine ⟨O, st, _, S, s2, ?_⟩
      cases em : m (ρ.set i (.lckd kd)) S with
      | exc x S' => rw [em] at g; exact g.elim
      | bad => rw [em] at g; exact g.elim
      | ok ds S' =>
        rw [em] at g
        refine fun H1 l vs f sq hl r => ?_
        have hpl : p ≠ l := fun z => by
          have := f _ _ (upd_same (H := H) (a := p)) n
          rw [z, hl] at this; cases this
        have e2 : H1 p = some (.frz od (.dK kv)) := f _ _ upd_same n
        refine ⟨by rw [upd_ne hpl]; exact e2, ?_⟩
        have ec : upd (upd H1 l (.lst vs)) p (.dK kv) = upd (upd H1 p (.dK kv)) l (.lst vs) := by
          funext b
          unfold upd
          by_cases b1 : b = p
          · rw [if_pos b1, if_neg (fun z => hpl (b1.symm.trans z)), if_pos b1]
          · rw [if_neg b1]
            by_cases b2 : b = l
            · rw [if_pos b2, if_pos b2]
            · rw [if_neg b2, if_neg b2, if_neg b1]
        rw [ec]
        refine g (upd H1 p (.dK kv)) l vs (fun a o ha hn => ?_) (sq.stay (fun a o ha ho => ?_) fun a φ ha => ?_) (by rw [upd_ne hpl.symm]; exact hl) (r.frm ⟨fun a o ha hn => ?_, fun a q => ?_⟩)
        · by_cases z : a = p
          · rw [z] at ha ⊢; rw [upd_same, ← hp, ha]
          · rw [upd_ne z]; exact f a o (by rw [upd_ne z]; exact ha) hn
        · rw [upd_ne (fun z => n (by rw [← z]; exact ha))]; exact ho
        · rw [upd_ne (fun z => by rw [z, e2] at ha; cases ha)]; exact ha
        · have hn' : a ≠ p := fun z => hn (.inr (.inr (by
            rw [z]
            exact ⟨i, .lckd kd, by rw [List.getElem?_set_self (List.getElem?_eq_some_iff.mp e1).1], trivial, h1⟩)))
          rw [upd_ne hn']; exact ha
        · rcases q with q | q | ⟨j, t, q1, q2, q3⟩
          · exact .inl (.inl q)
          · exact .inl (.inr (.inl q))
          · refine .inl (.inr (.inr ?_))
            by_cases ej : i = j
            · subst ej
              exact ⟨i, .lckd kd, by rw [List.getElem?_set_self (List.getElem?_eq_some_iff.mp e1).1], trivial, q3⟩
            · exact ⟨j, t, by rw [List.getElem?_set_ne ej]; exact q1, q2, q3⟩
  · exact g.elim
theorem re_dlen (hg : Gl X "len") (hm : X.mg "len" = none) (hv : PE X a (tVar i)) (hs : starEach [a] X.env = (false, eval a X.env) :: starEach [] X.env := by rfl) : RE X E (.Call (.Name "len" p1) [a] [] pos) (mDlen i) :=
  PEimp (pe_callB call_lenD hg hm PySem.boot_len (pa_cons hv pa_nil hs) (he := hs)) fun σ H Q ⟨O, st, ρ, S, s, g⟩ => by
    unfold mDlen at g
    split at g
    · rename_i kd e2
      obtain ⟨w, h1, q⟩ := s.slot i _ e2
      cases q with
      | ownd hp kr => exact ⟨_, h1, _, _, rfl, hp, by rw [kr.len]; exact g _ _ FrE.refl s.state (.int _)⟩
    · exact g.elim
end

/-! ### calls by keywords -/
abbrev RK (X : Cx) (E : XK) (kws : List Keyword) (ms : M (List D)) : Prop := PK X kws (tG X.K X.mg E (RfL X.K X.mg) ms)
def permV {α : Type} (z : α) (n : Nat) (perm : List Nat) (us ws : List α) : List α := if ws.length = n then us ++ perm.map fun i => ws.getD i z else z :: perm.map fun _ => z
def mCallK (perm : List Nat) (ms : M (List D)) (m : List D → DS → Res D) : M D := bnd ms fun ds => if ds.length = perm.length then (fun _ S => m (perm.map fun i => ds.getD i .non) S) else bad
section
variable {X : Cx} {E : XK} {e a b : Expr} {es : List Expr} {ms : M (List D)} {md : M D} {pos p1 p2 kpos : Pos} {x : Str} {k j : Nat} {ps ks : List Str} {m : List D → DS → Res D} {st : Stmt} {kws : List Keyword} {nm : Option Str}
theorem rk_nil : RK X E [] (ret []) := ⟨fun pos pins s σ H Q I h => pk_nil.run pos pins s σ H Q I (tG_ret (E := E) (v := []) (fun _ _ _ _ _ => .nil) h)⟩
theorem rk_cons (ha : RE X E e md) (hr : RK X E kws ms) : RK X E (⟨nm, e, kpos⟩ :: kws) (mCons md ms) := ⟨fun pos pins s σ H Q I h => (pk_cons ha hr).run pos pins s σ H Q I (by
  refine tG_mono (tG_bnd (R1 := RfD X.K X.mg) h) fun x H1 h1 => ?_
  refine tG_mono (tG1_k (R2 := RfL X.K X.mg) RfD.stable h1) fun xs H2 h2 => ?_
  obtain ⟨O, st, ρ, S, d, ds, s, r1, r2, g⟩ := h2
  exact g _ _ FrE.refl s.state (.cons r1 r2))⟩
theorem permV_rel {n : Nat} {perm : List Nat} {vs zs : List V} {us ws : List Value} (r : Vals vs us) (q : Vals zs ws) : Vals (permV .non n perm vs zs) (permV .none n perm us ws) := by
  have at_ : ∀ i, L2.RelV (zs.getD i .non) (ws.getD i .none) := fun i => by
    rw [List.getD_eq_getElem?_getD, List.getD_eq_getElem?_getD]
    cases e : zs[i]? with
    | none =>
      have := q.length
      rw [List.getElem?_eq_none (by rw [← this]; exact List.getElem?_eq_none_iff.mp e)]
      exact rfl
    | some v =>
      obtain ⟨u, h1, h2⟩ := q.get e
      rw [h1]; exact h2
  have all : ∀ l : List Nat, Vals (l.map fun i => zs.getD i .non) (l.map fun i => ws.getD i .none) := fun l => by
    induction l with
    | nil => exact .nil
    | cons i l ih => exact .cons (at_ i) ih
  have non : ∀ l : List Nat, Vals (l.map fun _ => V.non) (l.map fun _ => Value.none) := fun l => by
    induction l with
    | nil => exact .nil
    | cons i l ih => exact .cons rfl ih
  unfold permV
  rw [q.length]
  split
  · exact r.append (all perm)
  · exact .cons rfl (non perm)
/-- f(k = v, ..) -/
theorem re_callK (d : Df X.prog X.w X.K X.mg X.base j x ps m st) (c : Ctx X E k) (hjk : j ≤ k) (hg : Gl X x) (perm : List Nat) (hp : perm.length = ps.length) (hkl : ks.length = ps.length)
    (hb : ∀ (kV doc pm : Value) (an : Option Addr) (cdv ct : Value) (ws : List Value), ws.length = ks.length → bindArgs (PySem.W.fnOf x x (defArgs st) (defBody st) (defScope st) .none kV doc pm an cdv ct) ⟨[], ks.zip ws⟩ = pure (ps.zip (perm.map fun i => ws.getD i .none)))
    (hkw : RK X E kws ms) (hall : (backToKw pos (keywordEach kws X.env)).all (·.1.isSome) = true := by rfl) (hks : (backToKw pos (keywordEach kws X.env)).filterMap (·.1) = ks := by rfl)
    (hdb : (x == ("__debug__" : Str)) = false := by decide) (hpl : ((backTo pos (starEach [] X.env)).any (·.1) || (backToKw pos (keywordEach kws X.env)).any (·.1.isNone)) = false := by rfl) :
    RE X E (.Call (.Name x p1) [] kws pos) (mCallK perm ms m) := by
  obtain ⟨a, fd, hm, F, _, ok⟩ := d.ex
  obtain ⟨oc, od, kV, doc, pm, an, cdv, ct, osl, efd, lk, hcd⟩ := F.ex
  have kb : KBinds X.K fd ps ks (permV .none ps.length perm) (permV .non ps.length perm) := ⟨fun s us ws _ hl => by
    unfold permV at hl ⊢
    by_cases hw : ws.length = ps.length
    · rw [if_pos hw] at hl ⊢
      rw [List.length_append, List.length_map, hp] at hl
      have e : us = [] := List.length_eq_zero_iff.mp (by omega)
      subst e efd
      exact .of_eq (hb _ _ _ _ _ _ ws (by rw [hw, hkl]))
    · rw [if_neg hw] at hl
      rw [List.length_cons, List.length_map, hp] at hl
      omega, permV_rel⟩
  refine ⟨fun pins s σ H Q I h => ?_⟩
  refine wpAny_Call_Name_kw (ld_glob I hg hm ?_ hdb)
  have h := tG_bnd (R1 := RfL X.K X.mg) h
  refine PySem.W.callWith_KW0 (h₀ := X.base) I.ok.mod.kin F.kp hall (thn (hkw.run pos pins s σ H _ I h) fun ws s2 ⟨zs, H2, I2, rz, q2⟩ => ⟨I2.kIn, ?_⟩) hpl
  rw [hks]
  refine run_fnk (us := []) (vs := []) ok (c.room.mono hjk) kb c.pass I2 .nil rz ?_
  obtain ⟨O, st', ρ, S, ds, s', r, g⟩ := q2
  have hz : zs.length = ps.length := by
    dsimp only at g
    by_cases hn : ds.length = perm.length
    · rw [r.length, hn, hp]
    · rw [if_neg hn] at g; exact g.elim
  dsimp only at g
  rw [if_pos (by rw [← r.length, hz, hp])] at g
  have e1 : permV V.non ps.length perm [] zs = perm.map fun i => zs.getD i .non := by unfold permV; rw [if_pos hz]; rfl
  rw [e1]
  have rr : ∀ l : List Nat, Reps X.K X.mg st' H2 (AV O st' σ ρ) (l.map fun i => zs.getD i .non) (l.map fun i => ds.getD i .non) := fun l => by
    induction l with
    | nil => exact .nil
    | cons i l ih =>
      refine .cons ?_ ih
      dsimp only
      rw [List.getD_eq_getElem?_getD, List.getD_eq_getElem?_getD]
      cases e : ds[i]? with
      | none =>
        rw [List.getElem?_eq_none (by rw [r.length]; exact List.getElem?_eq_none_iff.mp e)]
        exact .non
      | some v =>
        obtain ⟨u, h1, h2⟩ := r.get i e
        rw [h1]; exact h2
  refine sp_of (ds := perm.map fun i => ds.getD i .non) s' (rr perm) ?_
  rw [if_pos (by rw [List.length_map, hp])]
  exact g
end
end Pf
namespace Pf
open PySem PySem.Spec L2
variable [TabsC]
theorem Ctx.u1 {X : Cx} {E : XK} {k : Nat} (c : Ctx X E k) : X.A.units + 1 < cLine := hu_of c.room
/-! ### a list of one's own becomes plain data -/
def sMove (i j : Nat) : MS := fun ρ S => match ρ[j]? with
  | some (.own ds) => .nx ((ρ.set j .no).set i (.val (.lst ds))) S
  | _ => .bad
section
variable {X : Cx} {E : XK} {e : Expr} {pos p1 : Pos} {x : Str}
theorem rs_move (i j : Nat) (hN : X.N.Nodup) (hi : X.N[i]? = some x) (hx : Loc X.env.scope x) (hv : PE X e (tVar j)) (hs : swapsWith e (some (.Name x p1)) pos.line X.env = pure false := by rfl)
    (hf : X.fn x = true ∨ X.env.scope.names.lookup x = some .local := by first | exact .inl rfl | exact .inr rfl | assumption) : RS1 X E (.Assign [.Name x p1] e pos) (sMove i j) :=
  PSimp (ps_set (i := i) hN hi hx hv hs hf) fun D σ H ⟨O, st, ρ, S, s, g⟩ => by
    unfold sMove at g
    split at g
    · rename_i ds e1
      obtain ⟨w, h1, q⟩ := s.slot j _ e1
      cases q with
      | own hp kr =>
        rename_i p vs
        have hb := (List.getElem?_eq_some_iff.mp h1).1
        have eσ : List.set σ j (some (V.ref p)) = σ := by
          have := (List.getElem?_eq_some_iff.mp h1).2
          rw [← this, List.set_getElem_self]
        obtain ⟨s1, f1⟩ := s.set (i := j) (v := some (.ref p)) (sd := .no) (fun z => z) fun _ => .no
        rw [eσ] at s1 f1
        have far := s.far _ ⟨j, _, e1, trivial, h1⟩
        have np : ¬ AV O st σ (ρ.set j .no) p := fun q => by
          rcases q with q | q | ⟨k, t, q1, q2, q3⟩
          · exact far.1 q
          · exact far.2 q
          · by_cases ej : j = k
            · subst ej
              rw [List.getElem?_set_self (List.getElem?_eq_some_iff.mp e1).1] at q1
              cases q1
              exact q2
            · rw [List.getElem?_set_ne ej] at q1
              exact ej (s.inj j k _ _ p e1 q1 trivial q2 h1 q3)
        obtain ⟨s2, f2⟩ := s1.set (i := i) (v := some (.ref p)) (sd := .val (.lst ds)) (fun z => z) fun _ => .val (.lst np hp (kr.frm f1.frm))
        exact ⟨_, h1, g _ _ s2 (f1.trans f2 s1.sin)⟩
    · exact g.elim
end
end Pf
end

section
set_option Elab.async false
set_option linter.all false
set_option maxRecDepth 100000
namespace Pf
open PySem PySem.Spec L2
variable [TabsC]
section
variable {X : Cx} {E : XK} {a b c : Expr} {m1 m2 m3 : M Bool} {pos : Pos}
theorem rt_if (hc : RT X E c m1) (ha : RT X E a m2) (hb : RT X E b m3) : RT X E (.IfExp c a b pos) (mIf m1 m2 m3) := ⟨fun pins s σ H Q I h => by
  have h := tG_if h
  show wpAny _ _ (do
    let k ← isTrue c X.env (eval c X.env)
    if k then isTrue a X.env (eval a X.env) else isTrue b X.env (eval b X.env)) _ _ s
  refine wpAny_bind (thn (hc.run pins s σ H _ I h) fun d s1 hq => ?_)
  obtain ⟨H1, I1, q1⟩ := hq
  cases d with
  | true => exact ha.run pins s1 σ H1 Q I1 q1
  | false => exact hb.run pins s1 σ H1 Q I1 q1⟩
end
end Pf
end

section
set_option Elab.async false
set_option linter.all false
set_option maxRecDepth 100000
namespace Pf
open PySem PySem.Spec PyProof.Rows L2
variable [TabsC]

/-! ### a tuple's method -/
def tyT (K : PySem.W.Frag) (x : V) (H : Hp) : Prop := ∃ a, x = .ref a ∧ ((∃ ob vs, H a = some (.frz ob (.tup vs)) ∧ ob.dict = none) ∨ ∃ o, K.lookup a = some o ∧ o.cls = .type "tuple" ∧ o.dict = none)
def tMT (K : PySem.W.Frag) (r : V → List V → Hp → VK → Prop) (to : TE) (t : TA) : TE := fun σ H Q => to σ H fun x H1 => tyT K x H1 ∧ t σ H1 fun xs H2 => r x xs H2 Q
def rIxT (K : PySem.W.Frag) : V → List V → Hp → VK → Prop := fun x xs H Q => ∃ (a : Addr) (y : V) (d : PyData) (ds : List PyData) (j : Nat) (z : PyData), x = V.ref a ∧ xs = [y] ∧ Dp K H (V.ref a) (.tuple ds) ∧ Dp K H y d ∧
  SeqAt.shaped (.tuple ds) = true ∧ SeqAt.shaped d = true ∧ ds[j]? = some z ∧ PyData.eqv z d = true ∧ (∀ (m : Nat) (z' : PyData), m < j → ds[m]? = some z' → PyData.eqv z' d = false) ∧ Q (.int (j : Nat)) H
section
variable {X : Cx} {E : XK} {e o b : Expr} {es : List Expr} {to : TE} {t : TA} {name : Str} {apos cpos : Pos} {id : String} {r : V → List V → Hp → VK → Prop} {ma mb : M D}
theorem tyT_at {pins : List (Addr × Obj)} {σ : L2.St} {H : Hp} {s : Shared} {x : V} {v : Value} (I : Inv X pins σ H s) (rx : L2.RelV x v) (ty : tyT X.K x H) : s.TypeIs v "tuple" ∧ ∀ b, v = .ref b → ∃ ob, s.heap.get? b = some ob ∧ ob.dict = none := by
  obtain ⟨a, rfl, h⟩ := ty
  obtain rfl : v = Value.ref a := rx
  rcases h with ⟨ob, vs, h, hd⟩ | ⟨ob, h, hc, hd⟩
  · obtain ⟨e1, ⟨_, its, _, o2, e2, c2, _⟩⟩ := (show ObjOk X.prog X.w H s.heap a (.frz ob (.tup vs)) from I.hok a _ h)
    exact ⟨⟨o2, e2, c2⟩, fun b hb => by cases hb; exact ⟨ob, e1, hd⟩⟩
  · have e1 := I.kIn a ob h
    exact ⟨⟨ob, e1, hc⟩, fun b hb => by cases hb; exact ⟨ob, e1, hd⟩⟩
theorem pe_mT (slot : Slot "tuple" name id) (hty : typeOf (.builtin id) = pure (.type "method_descriptor")) (hm : MtR X id r) (ho : PE X o to) (ha : PA X (e :: es) t)
    (hbase : attributeBase o name X.env (eval o X.env) = eval o X.env := by rfl)
    (hfew : ((backTo cpos (starEach (e :: es) X.env)).all (fun x => !x.1) && (backToKw cpos (keywordEach [] X.env)).all (fun x => x.1.isSome)
      && decide ((e :: es).length + ([] : List Keyword).length + (if ([] : List Keyword).isEmpty then 0 else 1) < 30)) = true := by rfl)
    (hline : (apos.endLine == cpos.line) = true := by rfl) (hs : starEach (e :: es) X.env = (false, eval e X.env) :: starEach es X.env := by rfl) (hpl : (backTo cpos (starEach es X.env)).any (·.1) = false := by rfl) :
    PE X (.Call (.Attribute o name apos) (e :: es) [] cpos) (tMT X.K r to t) := ⟨fun pins s σ H Q I hq => by
  refine wpAny_Call_method_late hbase hfew hline rfl (thn (ho.run pins s σ H _ I hq) fun v s1 hz => ?_)
  obtain ⟨x, H1, I1, r1, ty1, q1⟩ := hz
  obtain ⟨g1, g2⟩ := tyT_at I1 r1 ty1
  refine ⟨"tuple", id, PySem.F.plainAttrs_tuple, slot, hty, g1, g2, ?_⟩
  have hA := ha.run cpos pins s1 σ H1 _ I1 q1
  rw [hs] at hA ⊢
  refine Calls.callWith_builtin (by show (false || (backTo cpos (starEach es X.env)).any (·.1)) = false; rw [hpl]; rfl) (Calls.evalArgs_plain ?_)
  exact thn hA fun us s2 ⟨vs, H2, I2, r2, q2⟩ => hm pins s2 σ H2 x vs v us Q I2 r1 r2 q2⟩
theorem mt_ixT (hu : X.A.units + 65 < cLine) : MtR X "tuple.index" (rIxT X.K) := by
  intro pins s σ H x xs v us Q I rx rxs hh
  obtain ⟨a, y, d, ds, j, z, rfl, rfl, hl, hy, sl, sd, hz, hzj, hno, q⟩ := hh
  cases rx
  cases rxs with
  | cons ry rt =>
  rename_i uy ut
  cases rt
  obtain ⟨bs, r1⟩ := Dp.reads I d y uy hy ry
  have hxs : PyData.canLayAll0 ds = true := SeqAt.canLay_of_shaped sl
  have hroom : X.A.units + 1 + min (PyData.depthAll ds) d.depth < cLine := room_inT sd hu
  cases hl with
  | tup hs ha =>
  obtain ⟨its, rv, ⟨⟨cls, dd, data, sls⟩, ho, hc, n, hd⟩, hlen⟩ := I.tuple hs
  simp only at hc hd
  subst hc hd
  obtain ⟨as, h4⟩ := Dp.readsAll I ds _ its ha rv
  have hn : its.length = ds.length := SeqAt.ReadsAll.length ds its as h4
  have hmap : its.map (SeqAt.readOf s.heap) = ds := SeqAt.readsAll_map ds its as hxs h4
  obtain ⟨hjd, _⟩ := List.getElem?_eq_some_iff.mp hz
  have hj : j < its.toArray.size := by simp; omega
  have at_ : ∀ (m : Nat) (hm : m < its.toArray.size) (z' : PyData), ds[m]? = some z' → SeqAt.readOf s.heap its.toArray[m] = z' := fun m hm z' hz' => by
    have hml : m < its.length := by simpa using hm
    rw [← hmap, List.getElem?_map, List.getElem?_eq_getElem hml] at hz'
    have e1 : SeqAt.readOf s.heap its[m] = z' := Option.some.inj (show some (SeqAt.readOf s.heap its[m]) = some z' from hz')
    simpa using e1
  refine call_meets PySem.F.slot_tuple_index ⟨_, ho, rfl⟩ PySem.F.entry_tuple_index (PySem.F.args_tuple_index_2 _ _)
    (TI.tuple_indexAt a its.toArray n dd sls uy (fun u => PyData.eqv (SeqAt.readOf s.heap u) d) j hj ?_ ?_) ⟨ho, SeqAt.items_eqAt (vs := its.toArray) (show ReadsAll s.heap its.toArray.toList ds as from h4) r1 hxs (SeqAt.canLay_of_shaped sd) hroom, ?_⟩
  · show PyData.eqv (SeqAt.readOf s.heap its.toArray[j]) d = true
    rw [at_ j hj z hz]
    exact hzj
  · intro m hm hmj
    have hmd : m < ds.length := by omega
    have hz' : ds[m]? = some ds[m] := List.getElem?_eq_getElem hmd
    show PyData.eqv (SeqAt.readOf s.heap its.toArray[m]) d = false
    rw [at_ m hm _ hz']
    exact hno m _ hmj hz'
  · exact ⟨.int (j : Nat), H, I.tok _, ⟨_, rfl⟩, q⟩
def dIndex (x y : D) : Option D := match x, toP x, toP y with
  | .tup _, some (.tuple ps), some p => if SeqAt.shaped (.tuple ps) = true ∧ SeqAt.shaped p = true then (ps.findIdx? fun z => PyData.eqv z p).map fun j => .int (j : Nat) else none
  | _, _, _ => none
def mIdx (ma mb : M D) : M D := bnd ma fun x => match x with
  | .tup xs => bnd mb fun y => lft (dIndex (.tup xs) y)
  | _ => bad
theorem r_tyT {K : PySem.W.Frag} {mg : Str → Option Value} {st : StA} {H : Hp} {A : Addr → Prop} {v : V} {ds : List D} (r : Rep K mg st H A v (.tup ds)) : tyT K v H := by
  cases r with
  | tup n h o r => exact ⟨_, rfl, .inl ⟨_, _, h, o⟩⟩
  | tupK h o r =>
    rcases h with (h | ⟨_, h⟩) | ⟨ob, its, n, h1, h2, _⟩
    · cases h
    · cases h
    · exact ⟨_, rfl, .inr ⟨ob, h1, h2, o ob h1⟩⟩
theorem re_index (hu : X.A.units + 65 < cLine) (ha : RE X E o ma) (hb : RE X E b mb) (hbase : attributeBase o "index" X.env (eval o X.env) = eval o X.env := by rfl)
    (hfew : ((backTo cpos (starEach [b] X.env)).all (fun x => !x.1) && (backToKw cpos (keywordEach [] X.env)).all (fun x => x.1.isSome)
      && decide ([b].length + ([] : List Keyword).length + (if ([] : List Keyword).isEmpty then 0 else 1) < 30)) = true := by rfl)
    (hline : (apos.endLine == cpos.line) = true := by rfl) (hs : starEach [b] X.env = (false, eval b X.env) :: starEach [] X.env := by rfl) :
    RE X E (.Call (.Attribute o "index" apos) [b] [] cpos) (mIdx ma mb) :=
  PEimp (pe_mT PySem.F.slot_tuple_index PySem.F.type_tuple_index (mt_ixT hu) ha (pa_cons hb pa_nil hs) hbase hfew hline hs) fun σ H Q hh => by
    refine tG_mono (tG_bnd (R1 := RfD X.K X.mg) hh) fun x H1 h1 => ?_
    obtain ⟨O, st, ρ, S, d, s, r, g⟩ := h1
    cases d <;> try (exact g.elim)
    rename_i ds
    refine ⟨r_tyT r, O, st, ρ, S, s, ?_⟩
    dsimp only at g
    unfold bnd at g
    cases em : mb ρ S with
    | exc x S' => rw [em] at g; exact g
    | bad => rw [em] at g; exact g
    | ok dy S' =>
      rw [em] at g
      dsimp only at g
      refine fun y H2 f sq ry => ?_
      cases ei : dIndex (.tup ds) dy with
      | none => rw [ei] at g; exact g.elim
      | some dj =>
        rw [ei] at g
        unfold dIndex at ei
        split at ei
        · rename_i ps p ex ep eq
          split at ei
          · rename_i hz
            simp only [Option.map_eq_some_iff] at ei
            obtain ⟨j, ej, rfl⟩ := ei
            obtain ⟨hj, hp, hlt⟩ := List.findIdx?_eq_some_iff_getElem.mp ej
            have rx := (r.frm f.frm)
            have dx := rx.dp ep
            obtain ⟨a, vs, rfl, _, _⟩ := r_tup r
            refine ⟨a, y, p, ps, j, ps[j], rfl, rfl, dx, ry.dp eq, hz.1, hz.2, List.getElem?_eq_getElem hj, hp, fun m z' hm hz' => ?_, g _ _ f sq (.int _)⟩
            have hml : m < ps.length := Nat.lt_trans hm hj
            rw [List.getElem?_eq_getElem hml] at hz'
            cases hz'
            simpa using hlt m hm
          · cases ei
        · cases ei
end
end Pf
end

section
set_option Elab.async false
set_option linter.all false
set_option maxRecDepth 100000
namespace Pf
open PySem PySem.Spec PyProof.Rows L2
variable [TabsC]

/-! ### tuple(reversed(a tuple)) -/
def tRevTF (K : PySem.W.Frag) (te : TE) : TE := fun σ H Q => te σ H fun v H1 => ∃ (a : Addr) (xs : List V), v = .ref a ∧ SqT K H1 a xs ∧ ∀ q ob, H1 q = none → ob.dict = none → Q (.ref q) (upd H1 q (.frz ob (.tup xs.reverse)))
section
variable {X : Cx} {E : XK} {e : Expr} {te : TE} {m : M D} {p1 p2 pos pos2 : Pos}
theorem pe_revT (hc : X.calm = true) (hg : Gl X "tuple") (hm : X.mg "tuple" = none) (hg2 : Gl X "reversed") (hm2 : X.mg "reversed" = none) (he : PE X e te)
    (hs : starEach [e] X.env = (false, eval e X.env) :: starEach [] X.env)
    (hs2 : starEach [.Call (.Name "reversed" p2) [e] [] pos2] X.env = (false, eval (.Call (.Name "reversed" p2) [e] [] pos2) X.env) :: starEach [] X.env) :
    PE X (.Call (.Name "tuple" p1) [.Call (.Name "reversed" p2) [e] [] pos2] [] pos) (tRevTF X.K te) := ⟨fun pins s σ H Q I hq => by
  refine Call_ (ld_blt I hg hm boot_tuple (PyProof.Rows.callWith_type1 (args_cons (Call_ (ld_blt I hg2 hm2 PyProof.Rows.boot_reversed (PyProof.Rows.callWith_type1 (args_cons (thn (he.run pins s σ H _ I hq) fun u s1 hz => args_nil ?_) hs) hs rfl))) hs2) hs2 rfl))
  obtain ⟨v, H1, I1, r1, a, xs, ev, hT, q⟩ := hz
  subst ev
  obtain rfl : u = Value.ref a := r1
  obtain ⟨us, rv, tp, hz⟩ := I1.tuple hT
  have hn : us.toArray.size ≤ sizeLine := by rw [List.size_toArray, ← rv.length]; exact hz
  have l63 := line63
  refine RT.call_reversed_tup tp (fun A E Q k => len_tuple tp (by omega) k) (args_nil ?_)
  have kp : ∀ b o, s1.heap.get? b = some o → (s1.heap.push (RT.rtObj a ((us.toArray.size : Int) - 1))).get? b = some o := fun b o z => Heap.get?_push_of_some _ z
  have I2 : Inv X pins σ H1 { s1 with heap := s1.heap.push (RT.rtObj a ((us.toArray.size : Int) - 1)), toks := s1.toks + 1 + 1 } := I1.kept (t' := s1.toks + 1 + 1) kp
  obtain ⟨f0, f1, f2, f3, f4, f5⟩ := I1.fpOk (H' := H1) (b := s1.heap.objs.size) (Nat.le_refl _) (I1.hok.fresh (Nat.le_refl _))
  obtain ⟨ol, hol, hcl⟩ := id tp
  have ne : a ≠ s1.heap.objs.size := Nat.ne_of_lt (Heap.lt_size hol)
  refine call_tup_rt (s := { s1 with heap := s1.heap.push (RT.rtObj a ((us.toArray.size : Int) - 1)), toks := s1.toks + 1 + 1 }) (I1.ok.hd hc) ⟨_, Heap.get?_push_size _ rfl, rfl, rfl⟩ ⟨ol, kp _ _ hol, hcl⟩ ne hn fun h1 tk acc hk hi => ?_
  have I3 : Inv X pins σ H1 { s1 with heap := h1, toks := tk } := I2.turned (t' := tk) (fun b o hb z => hk b o hb z) f0 f1 f3 f4 f5
  have rr : Vals xs.reverse acc.toList := RT.vals_rev rv hi
  have I4 := layT I3 rr (by rw [List.length_reverse]; exact hz)
  have ea : tob acc.toList = { cls := .type "tuple", data := .seq acc } := by simp [tob]
  rw [ea] at I4
  exact ⟨.ref h1.objs.size, _, I4, rfl, q _ _ (I3.hok.fresh (Nat.le_refl _)) rfl⟩⟩
def dRevTuple : D → Option D
  | .tup xs => some (.tup xs.reverse)
  | _ => none
theorem re_rev_tuple (hc : X.calm = true) (hg : Gl X "tuple") (hm : X.mg "tuple" = none) (hg2 : Gl X "reversed") (hm2 : X.mg "reversed" = none) (he : RE X E e m) (hs : starEach [e] X.env = (false, eval e X.env) :: starEach [] X.env := by rfl)
    (hs2 : starEach [.Call (.Name "reversed" p2) [e] [] pos2] X.env = (false, eval (.Call (.Name "reversed" p2) [e] [] pos2) X.env) :: starEach [] X.env := by rfl) :
    RE X E (.Call (.Name "tuple" p1) [.Call (.Name "reversed" p2) [e] [] pos2] [] pos) (mB1 m dRevTuple) := PEimp (pe_revT hc hg hm hg2 hm2 he.q hs hs2) fun σ H Q hq =>
  c1_h (r := fun xs H Q => ∀ v, xs = [v] → ∃ (a : Addr) (xs : List V), v = .ref a ∧ SqT X.K H a xs ∧ ∀ q ob, H q = none → ob.dict = none → Q (.ref q) (upd H q (.frz ob (.tup xs.reverse)))) (f := dRevTuple) (fun O st σ ρ S H x a d Q s ra e g v hv => by
    cases hv
    unfold dRevTuple at e
    split at e
    · cases e
      obtain ⟨p, vs, rfl, h1, r1⟩ := q_tup ra
      exact ⟨p, vs, rfl, h1, fun q ob hq ho => g _ _ (FrE.laid hq) (s.state.laid hq) (s.mkT r1.reverse hq ho)⟩
    · cases e) hq |> fun z => tG_mono z fun x H1 h1 => h1 x rfl
end
end Pf
end

section
set_option Elab.async false
set_option linter.all false
set_option maxRecDepth 100000
namespace Pf
open PySem PySem.Spec L2
variable [TabsC]

/-! ### raise -/
structure IsExc1 (prog : Program) (K : PySem.W.Frag) (mg : Str → Option Value) (c f : Str) : Prop where
  ex : ∃ C fI p, Exc1 prog K mg C fI c f p
structure IsExc0 (K : PySem.W.Frag) (mg : Str → Option Value) (c : Str) : Prop where
  ex : ∃ (C : Addr) (bmB : List Value) (B newId initId : String), ExcBaseFacts B newId initId bmB ∧ PySem.W.excIn K C bmB newId = true ∧ mg c = some (.ref C) ∧ PySem.W.keepIn K (.ref C) = true ∧ PySem.W.subIn K (.ref C) (.type "BaseException") = some true ∧ PySem.W.typeIn K (.ref C) = some (.type "type")
def sRaise1 (c f : Str) (m : M D) : MS := sE m fun d _ S => .exc (c, some (f, d)) S
def sRaise0 (c : Str) : MS := fun _ S => .exc (c, none) S
section
variable {X : Cx} {E : XK} {e : Expr} {m : M D} {c f : Str} {pp pos pos2 p2 : Pos} {k j : Nat} {x : Str}
theorem rs_raise1 (cx : Ctx X E k) (tk : Takes X (fun cls d _ H => E cls d H)) (T : IsExc1 X.prog X.K X.mg c f) (hk : 1 ≤ k) (hg : Gl X c) (ha : RE X E e m) (hdb : (c == ("__debug__" : Str)) = false := by decide) (hs : starEach [e] X.env = (false, eval e X.env) :: starEach [] X.env := by rfl) :
    RS1 X E (.Raise (some (.Call (.Name c pp) [e] [] pos)) none pos2) (sRaise1 c f m) := by
  obtain ⟨C, fI, p, T⟩ := T.ex
  refine PSimp (ps_raise cx.calm tk (pmk1 T (cx.room.mono hk) hg (pa_cons ha pa_nil hs) hdb hs)) fun D σ H h => ?_
  refine tG_mono (tS_sE h) fun v H1 h1 => ?_
  obtain ⟨O, st, ρ, S, d, s, r, g⟩ := h1
  refine ⟨v, rfl, fun dx hdx => ?_⟩
  have fr := FrE.laid (st := st) (o := .xd [(f, v)]) hdx
  exact g _ _ _ (fun a o h n _ => fr a o h n) (s.state.laid hdx) ⟨C, dx, v, T.cls, rfl, rfl, fun z => s.new hdx (z.elim .inl fun y => .inr (.inl y)), upd_same, (r.frm fr.frm).weak fun a q => q.elim .inl fun y => .inr (.inl y)⟩
theorem rs_raise0 (cx : Ctx X E k) (tk : Takes X (fun cls d _ H => E cls d H)) (T : IsExc0 X.K X.mg c) (hg : Gl X c) (hdb : (c == ("__debug__" : Str)) = false := by decide) :
    RS1 X E (.Raise (some (.Call (.Name c pp) [.Constant (.str x) j p2] [] pos)) none pos2) (sRaise0 c) := by
  obtain ⟨C, bmB, B, newId, initId, F, q, gC, kC, h1, h2⟩ := T.ex
  refine PSimp (ps_raise cx.calm tk (pmk_own F q gC kC (raises_own h1 h2) hg hdb)) fun D σ H ⟨O, st, ρ, S, s, g⟩ => ?_
  exact g _ _ _ (fun a o h n _ => h) s.state ⟨C, gC, rfl, rfl⟩
end
end Pf
end

section
set_option Elab.async false
set_option linter.all false
set_option maxRecDepth 100000
namespace Pf
open PySem PySem.Spec L2
variable [TabsC]

/-! ### exceptions as values -/
/-- what the written part says of the class c, which stands at C -/
structure ExcOf (K : PySem.W.Frag) (mg : Str → Option Value) (C : Addr) (c : Str) : Prop where
  at_ : mg c = some (.ref C)
  cl : (PySem.W.clsIn K C).isSome = true
  x : L2.ExcC K C
  nn : PySem.W.kitOne K (.type "NoneType") (.ref C) = some false
structure ExcT (K : PySem.W.Frag) (mg : Str → Option Value) (cs : List Str) : Prop where
  of : ∀ c, c ∈ cs → ∃ C, ExcOf K mg C c
  rel : ∀ c d, c ∈ cs → d ∈ cs → ∀ C D, mg c = some (.ref C) → mg d = some (.ref D) → PySem.W.kitOne K (.ref C) (.ref D) = some (decide (c = d))
/-- an exception object at a, of the class at D -/
def ExAt (H : Hp) (a D : Addr) : Prop := ∃ φ d, H a = some (.ext φ) ∧ (∀ h, φ h → ∃ o vs, h.get? a = some o ∧ o.cls = .ref D ∧ o.dict = d ∧ o.data = .fields vs) ∧ ∀ dx, d = some dx → ∃ f v, H dx = some (.xd [(f, v)])
def rIsX (K : PySem.W.Frag) : List V → Hp → VK → Prop := fun xs H Q => ∃ (x : V) (C : Addr) (b : Bool), xs = [x, .ref C] ∧ ((x = .non ∧ PySem.W.kitOne K (.type "NoneType") (.ref C) = some b) ∨ ∃ a D, x = .ref a ∧ ExAt H a D ∧ (PySem.W.clsIn K D).isSome = true ∧ L2.ExcC K D ∧ PySem.W.kitOne K (.ref D) (.ref C) = some b) ∧ Q (.bl b) H
theorem inst_at {X : Cx} {pins : List (Addr × Obj)} {σ : L2.St} {H : Hp} {s : Shared} {a D : Addr} (I : L2.Inv X pins σ H s) (h : ExAt H a D) : ∃ ox od, PySem.W.InstAt s.heap a ox D od := by
  obtain ⟨φ, d, h1, h2, h3⟩ := h
  obtain ⟨p, _, _⟩ := (show ObjOk X.prog X.w H s.heap a (.ext φ) from I.hok a _ h1)
  obtain ⟨⟨oc, od, dt, sl⟩, vs, e1, e2, e3, e4⟩ := h2 _ p
  dsimp only at e2 e3 e4
  subst e2 e3 e4
  cases od with
  | none => exact ⟨_, none, e1, rfl, rfl, trivial⟩
  | some dx =>
    obtain ⟨f, v, h4⟩ := h3 dx rfl
    obtain ⟨mA, hns, hr⟩ := (show ObjOk X.prog X.w H s.heap dx (.xd [(f, v)]) from I.hok dx _ h4)
    obtain ⟨od, ho, _⟩ := lookIn_ns hns
    exact ⟨_, some od, e1, rfl, rfl, ho⟩
theorem call_isX {X : Cx} : CallR X (.builtin "isinstance") (rIsX X.K) := by
  intro pins s σ H xs us Q I r hh
  obtain ⟨x, C, b, rfl, hx, q⟩ := hh
  obtain ⟨u1, u2, rfl, r1, r2⟩ := vals2 r
  cases (show u2 = Value.ref C from r2)
  rcases hx with ⟨rfl, e⟩ | ⟨a, D, rfl, ha, hc, xc, e⟩
  · cases (show u1 = Value.none from r1)
    exact PySem.W.kia_one PySem.W.kitx_none I.kIn trivial e (fun z => nomatch z) fun tk => ⟨.bl b, H, I.tok tk, rfl, q⟩
  · cases (show u1 = Value.ref a from r1)
    obtain ⟨ox, od, J⟩ := inst_at I ha
    exact PySem.W.kia_one (PySem.W.kitx_exc hc xc.hg xc.hk xc.hs xc.ha xc.hn xc.ht xc.hm) I.kIn J e (fun z => nomatch z) fun tk => ⟨.bl b, H, I.tok tk, rfl, q⟩
theorem rep_exAt {K : PySem.W.Frag} {mg : Str → Option Value} {st : StA} {H : Hp} {A : Addr → Prop} {v : V} {c : Str} {p : Option (Str × D)} (r : Rep K mg st H A v (.exc c p)) : ∃ a C, v = .ref a ∧ mg c = some (.ref C) ∧ ExAt H a C := by
  cases r with
  | exc0 n m h z => exact ⟨_, _, rfl, m, _, none, h, z, fun dx e => by cases e⟩
  | exc1 n n2 m h z h2 r => exact ⟨_, _, rfl, m, _, _, h, z, fun dx e => by cases e; exact ⟨_, _, h2⟩⟩
def dIsX (cs : List Str) (y : Str) : D → Option D
  | .non => some (.bl false)
  | .exc c _ => if c ∈ cs then some (.bl (decide (c = y))) else none
  | _ => none
section
variable {X : Cx} {E : XK} {a e : Expr} {m : M D} {cs : List Str} {y : Str} {pos p1 p2 : Pos}
theorem re_isX (T : ExcT X.K X.mg cs) (hy : y ∈ cs) (hg : Gl X "isinstance") (hm : X.mg "isinstance" = none) (hg2 : Gl X y) (ha : RE X E a m) (hd : (y == ("__debug__" : Str)) = false := by decide)
    (hs : starEach [a, .Name y p2] X.env = (false, eval a X.env) :: starEach [.Name y p2] X.env := by rfl) (hs2 : starEach [.Name y p2] X.env = (false, eval (.Name y p2) X.env) :: starEach [] X.env := by rfl) (hpl : (backTo pos (starEach [.Name y p2] X.env)).any (·.1) = false := by rfl) :
    RE X E (.Call (.Name "isinstance" p1) [a, .Name y p2] [] pos) (mB1 m (dIsX cs y)) := by
  obtain ⟨C, TC⟩ := T.of y hy
  refine PEimp (pe_callB call_isX hg hm (by decide +kernel) (pa_cons ha (pa_cons (pe_glob hg2 TC.at_ (v := .ref C) rfl hd) pa_nil hs2) hs) (he := hs) (hpl := hpl)) fun σ H Q h => ?_
  refine tG_mono (tG_bnd (R1 := RfD X.K X.mg) h) fun x H1 h1 => ?_
  obtain ⟨O, st, ρ, S, d, dr, s, r, e, g⟩ := tG1_lft h1
  cases d <;> try (cases e; done)
  · cases e
    cases r
    exact ⟨.non, C, false, rfl, .inl ⟨rfl, TC.nn⟩, g _ _ FrE.refl s.state (.bl _)⟩
  · rename_i c p
    dsimp only [dIsX] at e
    split at e
    · rename_i hc
      cases e
      obtain ⟨b, D, rfl, mD, ea⟩ := rep_exAt r
      obtain ⟨D', TD⟩ := T.of c hc
      have eD : D' = D := by
        have := TD.at_
        rw [mD] at this
        exact (Value.ref.inj (Option.some.inj this)).symm
      subst eD
      exact ⟨_, C, _, rfl, .inr ⟨b, D', rfl, ea, TD.cl, TD.x, T.rel c y hc hy D' C mD TC.at_⟩, g _ _ FrE.refl s.state (.bl _)⟩
    · cases e
/-- e.f of an exception -/
def dXf (c f : Str) : D → Option D
  | .exc c' (some (f', d)) => if c' = c ∧ f' = f then some d else none
  | _ => none
theorem re_xf {c f : Str} (T : ExcT X.K X.mg cs) (hc : c ∈ cs) (hno : ∀ C, X.mg c = some (.ref C) → PySem.W.findIn X.K (.ref C) f = some none) (ha : RE X E a m) (hb : attributeBase a f X.env (eval a X.env) = eval a X.env := by rfl) :
    RE X E (.Attribute a f pos) (mB1 m (dXf c f)) := ⟨fun pins s σ H Q I h => by
  refine attr_of hb (thn (ha.run pins s σ H _ I (tG_bnd (R1 := RfD X.K X.mg) h)) fun u s1 hh => ?_)
  obtain ⟨x, H1, I1, rx, h1⟩ := hh
  obtain ⟨O, st, ρ, S, d, dr, s', r, e, g⟩ := tG1_lft h1
  unfold dXf at e
  split at e
  · rename_i c' f' dv
    split at e
    · rename_i hz
      obtain ⟨rfl, rfl⟩ := hz
      cases e
      obtain ⟨C, TC⟩ := T.of _ hc
      cases r with
      | @exc1 b dx C' _ _ v _ φ n n2 mC hφ z h2 rv =>
        obtain rfl : u = Value.ref b := rx
        have eC : C = C' := by
          have := TC.at_
          rw [mC] at this
          exact (Value.ref.inj (Option.some.inj this)).symm
        subst eC
        obtain ⟨p, _, _⟩ := (show ObjOk X.prog X.w H1 s1.heap b (.ext φ) from I1.hok b _ hφ)
        obtain ⟨oe, vs, e1, e2, e3, e4⟩ := z _ p
        obtain ⟨mA, hns, hr⟩ := (show ObjOk X.prog X.w H1 s1.heap dx (.xd [(f', v)]) from I1.hok dx _ h2)
        obtain ⟨od, ho, hl⟩ := lookIn_ns hns
        have ll : ([(f', v)] : List (Str × V)).lookup f' = some v := by simp [List.lookup]
        obtain ⟨u, hu, ru⟩ := RelO.some_of (v := v) (o := mA f') (by rw [← ll]; exact hr f')
        have J : PySem.W.InstAt s1.heap b oe C (some od) := ⟨e1, e2, by unfold PySem.W.notCls; rw [e4] <;> rfl, by rw [e3]; exact ho⟩
        exact HandSPX.exc_get I1.kIn J TC.x.hg TC.x.hk TC.x.hs (PySem.W.findObj_own TC.x.hd (hno C TC.at_) rfl (by rw [hl, hu])) (handed_of ru) ⟨v, H1, I1.tok _, ru, g _ _ FrE.refl s'.state rv⟩
    · cases e
  · cases e⟩
end
end Pf
end

section
set_option Elab.async false
set_option linter.all false
set_option maxRecDepth 100000
namespace Pf
open PySem PySem.Spec PyProof.Rows L2 LamX
variable [TabsC]

/-! ### a new base: all that is not tracked, but the frames -/
section
variable {X : Cx} {pins : List (Addr × Obj)} {σ : L2.St} {H : Hp} {s : Shared}
def newBase (s : Shared) (H : Hp) (l : List Env) : Heap := PySem.W.hideAll (hidT s.heap H) (frs l)
theorem newBase_get {l : List Env} {b : Addr} {o : Obj} (e : s.heap.get? b = some o) (n : H b = none) (nf : b ∉ frs l) : (newBase s H l).get? b = some o := PySem.W.hideAll_get _ (hidT_get e n) nf
theorem of_newBase {l : List Env} {b : Addr} {o : Obj} (e : (newBase s H l).get? b = some o) : s.heap.get? b = some o ∧ H b = none := of_hidT (PySem.W.of_hideAll _ e)
theorem base_mod (I : Inv X pins σ H s) : L2.Mod X.K X.mg (newBase s H X.stack) := by
  have k : ∀ b o, X.base.get? b = some o → (newBase s H X.stack).get? b = some o := fun b o e => by
    obtain ⟨e1, e2⟩ := I.bs b o e
    refine newBase_get e1 e2 fun hm => ?_
    rcases List.mem_cons.mp (I.stkSub b hm) with z | z
    · rw [z] at e
      exact absurd (Heap.lt_size e) (Nat.not_lt.mpr (Nat.le_trans I.ok.bsz I.ok.above))
    · exact I.ok.nofr e z
  have M := I.ok.mod
  obtain ⟨mb, hb, hmb⟩ := M.blt
  exact ⟨M.kin.keeps k, M.glob.keeps k, ⟨mb, hb.keeps k, hmb⟩, M.nolimit.keeps k⟩
theorem base_env (I : Inv X pins σ H s) : Env0 X.prog X.w X.K X.mg (newBase s H X.stack) X.A X.stack s H := by
  refine ⟨I.ok.frames, base_mod I, fun b o e => of_newBase e, ?_, ?_, I.stkFree, I.hok, I.bare⟩
  · unfold newBase
    rw [PySem.W.hideAll_size, hidT_size]
    exact Nat.le_refl _
  · have fn : ∀ (l : List Env) (B : Heap), (∀ b ∈ frs l, B.get? b = none) → s.heap.FunFrames X.base l → s.heap.FunFrames B l := by
      intro l B
      induction l with
      | nil => intro _ _; trivial
      | cons env r ih =>
        intro hB hl
        obtain ⟨hk, ⟨L, o, hf, hn, ho, hd⟩, hr⟩ := hl
        have hL : L ∈ frs (env :: r) := by unfold frs; rw [List.filterMap_cons, hf]; exact List.mem_cons_self
        exact ⟨hk, ⟨L, o, hf, hB L hL, ho, hd⟩, ih (fun b hb => hB b (by
          unfold frs at hb ⊢
          rw [List.filterMap_cons]
          cases env.frame <;> first | exact hb | exact List.mem_cons_of_mem _ hb)) hr⟩
    exact fn X.stack _ (fun b hb => PySem.W.hideAll_none _ hb) I.stack
end

/-! ### what can be called without arguments -/
def Act (P : Program) (w : World) (K : PySem.W.Frag) (mg : Str → Option Value) (B : Heap) (k : Nat) (f : Addr) (tl : XK → Hp → VK → Prop) : Prop :=
  ∀ (X : Cx) (E : XK) (i : Nat) (a : Str) (p1 p2 : Pos), X.prog = P → X.w = w → X.K = K → X.mg = mg → X.base = B → Ctx X E k → X.N[i]? = some a → Vis X.env.scope a → (a == ("__debug__" : Str)) = false → (a == ("__classdict__" : Str)) = false →
    PE X (.Call (.Name a p1) [] [] p2) (fun σ H Q => σ[i]? = some (some (.ref f)) ∧ tl E H Q)
/-- what is told of the exception that is caught and given back -/
def kept (K : PySem.W.Frag) (CP : Addr) (Q : VK) : XK := fun cls d H => PySem.W.exmOne K cls (.ref CP) = some true ∧ ∀ a, H a = none → ∀ φ, KeptX a cls d φ → Q (.ref a) (upd H a (.ext φ))
def spCau (P : Program) (w : World) (K : PySem.W.Frag) (mg : Str → Option Value) (B : Heap) (k : Nat) (CP : Addr) : Sp := fun vs H Q _ => ∃ f tl, vs = [.ref f] ∧ Act P w K mg B k f tl ∧ ∀ (E : XK) (Q' : VK), (∀ cls d H', kept K CP Q cls d H' → E cls d H') → (∀ v H', Q .non H' → Q' v H') → tl E H Q'
section
variable {P : Program} {w : World} {K : PySem.W.Frag} {mg : Str → Option Value} {B : Heap} {k : Nat} {CP a : Addr} {fd : FuncData} {st : Stmt} {x ac fo er cp : Str} {j1 : Nat} {p1 p2 p3 p4 p5 p6 p7 p8 p9 q1 q2 q3 q4 q5 : Pos}
/-- found = None; try: action() except PairError as error: found = error; return found -/
theorem caught_fn (F : Fun K x x st a fd) (S : FnScope [ac, fo, er] [ac] (defScope st)) (hcp : mg cp = some (.ref CP))
    (hbody : defBody st = [.Assign [.Name fo p1] (.Constant .none j1 p2) p3, .Try [.Expr (.Call (.Name ac p4) [] [] p5) p6] [.ExceptHandler (some (.Name cp p7)) (some er) [.Assign [.Name fo p8] (.Name er p9) q1] q2] [] [] q3, .Return (some (.Name fo q4)) q5])
    (hfo : (defScope st).names.lookup fo = some .local) (her : (defScope st).names.lookup er = some .local) (hac : (defScope st).names.lookup ac = some .local) (hcg : (defScope st).names.lookup cp = some .globalImplicit)
    (hd : (ac == ("__debug__" : Str)) = false ∧ (fo == ("__debug__" : Str)) = false ∧ (er == ("__debug__" : Str)) = false ∧ (cp == ("__debug__" : Str)) = false) (hd2 : (ac == ("__classdict__" : Str)) = false ∧ (fo == ("__classdict__" : Str)) = false ∧ (er == ("__classdict__" : Str)) = false)
    (hsw : ∀ env : Env, env.scope = defScope st → swapsWith (.Constant .none j1 p2) (some (.Name fo p1)) p3.line env = pure false ∧ swapsWith (.Name er p9) (some (.Name fo p8)) q1.line env = pure false ∧ swapsWith (.Call (.Name ac p4) [] [] p5) none p6.line env = pure false) :
    FnOk P w K mg B (L2.CX P w) (k + 1) a fd [ac] (spCau P w K mg B k CP) := by
  refine F.okX S (fun vs H Q E hq => ?_) (fun cdv A outer s H vs Q E hr hq => ?_)
  · obtain ⟨f, tl, rfl, _⟩ := hq
    rfl
  · obtain ⟨f, tl, rfl, act, hq⟩ := hq
    rw [hbody]
    obtain ⟨sw1, sw2, sw3⟩ := hsw (envOfC x (defScope st) s.heap.objs.size a cdv) rfl
    refine ⟨_, pss_cons (ps_set (i := 1) S.nd rfl (.inl hfo) pe_non sw1 (.inr hfo))
      (pss_cons (ps_keep (i := 2) (c := .ref CP) (tb := fun W D σ H => σ[0]? = some (some (.ref f)) ∧ tl (fun cls d H' => ∀ σ', W cls d σ' H') H fun _ H' => D.nx σ H')
        (ts := fun a cls d D σ H => ∃ v, σ[2]? = some (some v) ∧ D.nx (List.set σ 1 (some v)) H) rfl rfl rfl S.nd rfl her ⟨hcg, hd.2.2.2, .inl hcp⟩ (fun W pn xe tk po => ?_) (fun b oe cls d pn hz hf => ?_))
      (pss_one (ps_ret (pv 1 rfl (.inl hfo) hd.2.1 hd2.2.1)))), ?_⟩
    · have cx : Ctx ((cxOf (L2.CX P w) P w K mg B [ac, fo, er] x (defScope st) a cdv A outer s H E).tr pn xe) (fun cls d H' => ∀ σ', W cls d σ' H') k := ⟨hr, passes_call tk fun cls d σ H h => h σ, rfl⟩
      exact pss_one (PSimp (ps_expr (act _ _ 0 ac p4 p5 rfl rfl rfl rfl rfl cx rfl (.inl hac) hd.1 hd2.1) sw3) fun D σ H h => h)
    · exact pss_one (PSimp (ps_set (i := 1) S.nd rfl (.inl hfo) (pv 2 rfl (.inl her) hd.2.2.1 hd2.2.2) sw2 (.inr hfo)) fun D σ H h => h)
    · refine ⟨rfl, hq _ _ (fun cls d H' h σ' => ⟨h.1, fun hl b hb => ?_⟩) fun v H' h => ⟨.non, rfl, h⟩⟩
      match σ', hl with
      | [u0, u1, u2], _ => exact ⟨.ref b, rfl, fun hb2 φ hk => ⟨.ref b, rfl, h.2 b hb φ hk⟩⟩
end
end Pf
end

section
set_option Elab.async false
set_option linter.all false
set_option maxRecDepth 100000
namespace Pf
open PySem PySem.Spec PyProof.Rows L2 LamX
variable [TabsC]

/-! ### a lambda without parameters that stands in the base -/
structure ScL (sc : Scope) : Prop where
  fun_ : sc.kind = .function
  noco : sc.isCoroutine = false
  nogen : sc.isGenerator = false
  mine : ∀ y ∈ sc.names, y.2 ≠ .local ∧ y.2 ≠ .cell
/-- the captured names at the base B, the slots σ of the maker -/
structure LamV (B : Heap) (N : List Str) (σ : L2.St) (sc : Scope) (cl : List (Str × Addr)) : Prop where
  len : σ.length = N.length
  has : ∀ y, sc.names.lookup y = some .free → ∃ c, cl.lookup y = some c
  one : ∀ y z c, cl.lookup y = some c → cl.lookup z = some c → y = z
  cell : ∀ y c, cl.lookup y = some c → ∃ v, B.IsCell c v
  val : ∀ (i : Nat) (y : Str) (v : V), N[i]? = some y → σ[i]? = some (some v) → sc.names.lookup y = some .free → ∃ c u, cl.lookup y = some c ∧ RelV v u ∧ B.IsCell c (some u)
abbrev lmE (q : Str) (sc : Scope) (L f c' : Addr) (cl : List (Str × Addr)) : Env := PySem.W.envX (q) sc L f (.ref c') cl
/-- where the lambda's body is read -/
def lmX (P : Program) (w : World) (K : PySem.W.Frag) (mg : Str → Option Value) (B : Heap) (N : List Str) (A : Around) (out : List Env) (t : Shared) (G : Hp) (E : XK) (q : Str) (sc : Scope) (f c' : Addr) (cl : List (Str × Addr)) : Cx where
  prog := P
  w := w
  K := K
  mg := mg
  base := B
  A := A.deeper (lmE q sc t.heap.objs.size f c' cl)
  N := N
  s_0 := t
  H_0 := G
  env := lmE q sc t.heap.objs.size f c' cl
  outer := out
  stack := lmE q sc t.heap.objs.size f c' cl :: out
  ex := []
  fn := fun _ => false
  calm := true
  pn := []
  xe := fun e t1 => wpAny (model P w) (A.deeper (lmE q sc t.heap.objs.size f c' cl)) (leaving (lmE q sc t.heap.objs.size f c' cl) e) (fun _ t2 => L2.CX P w out G t E e t2) (fun e2 t2 => L2.CX P w out G t E e2 t2) t1
section
variable {P : Program} {w : World} {K : PySem.W.Frag} {mg : Str → Option Value} {B : Heap} {N : List Str} {σ : L2.St} {sc : Scope} {cl : List (Str × Addr)} {f c' : Addr} {q : Str}
theorem IsCell.up {B h : Heap} (k : ∀ b o, B.get? b = some o → h.get? b = some o) {c : Addr} {v : Option Value} (z : B.IsCell c v) : h.IsCell c v := by
  obtain ⟨o, e1, e2⟩ := z
  exact ⟨o, k _ _ e1, e2⟩
theorem lm_begin {A : Around} {out : List Env} {t : Shared} {G : Hp} {E : XK} {hN : Heap} {tk : Nat} (e0 : Env0 P w K mg B A out t G) (hA : A.handled = none) (L : ScL sc) (V : LamV B N σ sc cl)
    (hns : hN.Ns t.heap.objs.size fun y => ([] : List (Str × Value)).reverse.lookup y) (up : ∀ b o, t.heap.get? b = some o → hN.get? b = some o) :
    Inv (lmX P w K mg B N A out t G E q sc f c' cl) [] σ G { t with heap := hN, toks := tk } := by
  have upB : ∀ b o, B.get? b = some o → hN.get? b = some o := fun b o e => up b o (e0.bs b o e).1
  have gC : ∀ {c v}, B.IsCell c v → G c = none := fun {c v} ⟨o, e, _⟩ => (e0.bs c o e).2
  have emp : ∀ b : Addr, b ∉ (lmX P w K mg B N A out t G E q sc f c' cl).ex := fun b z => by
    have z : b ∈ ([] : List Addr) := z
    exact absurd z (by simp)
  refine ⟨⟨e0.mod, L.fun_, rfl, rfl, Nat.le_refl _, V.one, fun y hy => ?_, fun y c z _ => ?_, fun _ => hA, Around.frames_deeper e0.frames, .inr ⟨rfl, rfl⟩, fun b z => absurd z (emp b), e0.bs, e0.bsz, fun b _ _ => emp b,
      fun b z => absurd z (emp b), e0.funs, e0.frf⟩,
    rfl, e0.bare, Un.kept up, ⟨_, hns, fun i y v e1 e2 e3 => ?_⟩, fun y c e => ?_, e0.hok.fresh (Nat.le_refl _), fun y c e => ?_, fun p hp => ?_, e0.hok.kept up, V.len⟩
  · rcases hy with z | z
    · exact absurd rfl (L.mine _ (PySem.mem_of_lookup (show sc.names.lookup y = _ from z))).2
    · exact V.has y z
  · cases (show false = true from z)
  · have e3 : Vis sc y := e3
    rcases e3 with z | z | z
    · exact absurd rfl (L.mine _ (PySem.mem_of_lookup z)).1
    · exact absurd rfl (L.mine _ (PySem.mem_of_lookup z)).2
    · obtain ⟨c, u, h1, h2, h3⟩ := V.val i y v e1 e2 z
      exact ⟨u, h2, .inr ⟨.inr z, c, h1, IsCell.up upB h3⟩⟩
  · obtain ⟨v, z⟩ := V.cell y c e
    exact ⟨v, IsCell.up upB z⟩
  · obtain ⟨v, z⟩ := V.cell y c e
    exact gC z
  · have hp : p ∈ ([] : List (Addr × Obj)) ++ [] := hp
    exact absurd hp (by simp)
/-- it can be called -/
theorem act_of {k : Nat} {params : Arguments} {body : Expr} {pm ctv : Value} {m : M D} (hf : B.get? f = some (PySem.W.kla_obj "<lambda>" q params body sc cl pm c' ctv)) (L : ScL sc) (V : LamV B N σ sc cl)
    (hb : bindArgs (PySem.W.kla_fn "<lambda>" q params body sc cl pm (.ref c') ctv) ⟨[], []⟩ = pure [])
    (hbody : ∀ (A : Around) (out : List Env) (t : Shared) (G : Hp) (E : XK), Ctx (lmX P w K mg B N A out t G E q sc f c' cl) E k → RE (lmX P w K mg B N A out t G E q sc f c' cl) E body m) :
    Act P w K mg B (k + 1) f (fun E G Q => G c' = some (CodeO c' q) ∧ tG K mg E (RfD K mg) m σ G Q) := by
  intro X E i a p1 p2 hP hw hK hmg hB cx hi hv hd hcd
  subst hP hw hK hmg hB
  refine ⟨fun pins s τ G Q I h => ?_⟩
  obtain ⟨hs, hc, ht⟩ := h
  refine wpAny_Call_Name_kw (thn ((pe_var (pos := p1) (i := i) hi hv hd hcd).run pins s τ G (fun v G1 => v = .ref f ∧ G1 = G) I ⟨.ref f, hs, rfl, rfl⟩) fun u t ⟨v, G1, J, rr, ev, eG⟩ => ?_)
  subst ev eG
  obtain rfl : u = Value.ref f := rr
  have fo := J.bk _ _ hf
  refine PySem.W.callWith_F0 ⟨_, _, _, _, fo⟩ ?_
  obtain ⟨⟨oc, vs, tok, hoc, hdc, hvc⟩, _, _⟩ := J.hok c' _ hc
  have run : codeAny (model X.prog X.w) X.A (.call (.ref f) ⟨[], []⟩) (CR (L2.CX X.prog X.w) X.stack X.prog X.w G1 t Q E) t := by
    refine PySem.W.kla_callFunE cx.room.depth fo rfl L.noco L.nogen rfl ⟨c', oc, vs, tok, rfl, hoc, hdc, hvc⟩ ?_
    rw [hb]
    refine wpAny_pure (wpAny_newFunctionEnv (fun y hy => (L.mine y hy).2) (fun y hy => absurd hy (by simp)) (fun hN hns sb => ⟨J.nolimit.fresh _ sb, ?_⟩) L.fun_)
    show codeAny _ _ (.expr body (lmE q sc t.heap.objs.size f c' cl)) _ _
    have up : ∀ b o, t.heap.get? b = some o → hN.get? b = some o := fun b o e => sb.extBut b o (Nat.ne_of_lt (Heap.lt_size e)) (Heap.get?_push_of_some _ e)
    have Z := lm_begin (E := E) (q := q) (f := f) (c' := c') (tk := t.toks + ([] : List (Str × Value)).length) J.env0 cx.room.hd L V hns up
    have tk : Takes (lmX X.prog X.w X.K X.mg X.base N X.A X.stack t G1 E q sc f c' cl) (fun cls d _ H => E cls d H) := takes_of rfl rfl rfl rfl
    refine PySem.W.kla_codeExpr (wpAny_mono ((hbody X.A X.stack t G1 E ⟨cx.room.deeper _, passes_call tk fun _ _ _ _ z => z, rfl⟩).run [] _ σ G1 Q Z ht) (fun v t2 hq => ?_) fun e t2 hq => hq)
    obtain ⟨y, G2, J2, rv, hq⟩ := hq
    exact ⟨y, G2, J2.os, J2.bare, J2.base, J2.hok, rv, hq⟩
  refine wpAny_call (codeAny_mono run fun r t2 hq => ?_)
  cases r with
  | error e => exact cx.pass pins τ G1 t e t2 J hq
  | ok fl =>
    cases fl with
    | ret u => exact J.after hq
    | next => exact hq.elim
    | brk => exact hq.elim
    | cont => exact hq.elim
end
end Pf
end

section
set_option Elab.async false
set_option linter.all false
set_option maxRecDepth 100000
namespace Pf
open PySem PySem.Spec PyProof.Rows L2 LamX
variable [TabsC]

/-- the making of a lambda: the maker's table and its code's name -/
structure LamMk (X : Cx) (P : Addr) : Prop where
  code : ∃ c, X.env.code = .ref c ∧ TabB X.base X.mg c P
  mem : (P, X.env.qual ++ "<lambda>") ∈ TabsC.tb
  uni : ∀ p ∈ TabsC.tb, p.1 = P → p.2 = X.env.qual ++ "<lambda>"
section
variable {X : Cx} {pins : List (Addr × Obj)} {σ : L2.St} {H : Hp} {s : Shared} {st : StA} {S : DS} {P : Addr}
theorem tbl_drA {H : Hp} {S : DS} {P : Addr} {ps : Array Value} (q : StOk st H S) (h : H P = some (.tbl ps)) : ¬ drA st.dr P := fun z => by
  have hd := q.dr
  cases hs : st.dr with
  | none => rw [hs] at z; exact z
  | some t =>
    rw [hs] at z hd
    obtain ⟨a1, g, c⟩ := t
    obtain ⟨h1, h2, h3⟩ := hd
    rcases z with rfl | rfl | rfl
    · rw [h] at h1; cases h1
    · rw [h] at h2; cases h2
    · rw [h] at h3; cases h3
theorem StOk.tables {H H' : Hp} (q : StOk st H S) (k : ∀ a o, drA st.dr a → H a = some o → H' a = some o) (t : Tabs TabsC.tb H') : StOk st H' S := by
  refine ⟨?_, t⟩
  have hd := q.dr
  cases hs : st.dr with
  | none => trivial
  | some t =>
    rw [hs] at hd k
    obtain ⟨a1, g, c⟩ := t
    obtain ⟨h1, h2, h3⟩ := hd
    exact ⟨k _ _ (.inl rfl) h1, k _ _ (.inr (.inl rfl)) h2, k _ _ (.inr (.inr rfl)) h3⟩
theorem lam_make {params : Arguments} {body : Expr} {sc : Scope} {pos : Pos} {Q E : Value → Shared → Prop} (I : Inv X pins σ H s) (M : LamMk X P) (q : StOk st H S) (hdef : defaultsOf params X.env = ([], []))
    (hfree : ∀ y ∈ sc.names, y.2 = .free → ∃ c, X.env.cells.lookup y.1 = some c)
    (go : ∀ (f c' : Addr) (pm ctv : Value) (H1 : Hp) (t : Shared), Inv X pins σ H1 t → FrE st H H1 → StOk st H1 S →
      t.heap.get? f = some (PySem.W.kla_obj "<lambda>" (X.env.qual ++ "<lambda>") params body sc (cloFrom X.env.cells sc.names []) pm c' ctv) → H1 f = none → f ∉ frs X.stack → f ≠ X.env.locals → f ∉ X.fs → H1 c' = some (CodeO c' (X.env.qual ++ "<lambda>")) → s.heap.objs.size ≤ f → Q (.ref f) t) :
    wpAny (model X.prog X.w) X.A (eval (.Lambda params body sc pos) X.env) Q E s := by
  obtain ⟨c, hcode, TB⟩ := M.code
  obtain ⟨ps, hP, tri, amo⟩ := q.tb _ M.mem
  dsimp only at hP tri amo
  have sP : stA st P := .inr ⟨_, M.mem⟩
  have bP : s.heap.BuiltinsAt X.mg P := TB.bm.keeps I.bk
  have oP : s.heap.get? P = some { cls := .none, data := .fields ps } := I.hok P _ hP
  have far : ∀ f, s.heap.objs.size ≤ f → f ∉ frs X.stack ∧ f ≠ X.env.locals ∧ f ∉ X.fs := fun f hf => by
    have h1 : f ≠ X.env.locals := fun z => absurd I.lt (by rw [← z]; exact Nat.not_lt.mpr hf)
    exact ⟨fun z => (List.mem_cons.mp (I.stkSub _ z)).elim h1 (I.nofs hf), h1, I.nofs hf⟩
  refine PySem.W.kla_eval hdef ?_
  cases hc : codeAmong pos ps.toList with
  | some cv =>
    obtain ⟨c', rfl, hco⟩ := amo pos cv hc
    refine PySem.W.kla_makeFunctionHit (mg := X.mg) (c := c) (P := P) (ps := ps) (closure_ok hfree) I.ok.glob (I.mod.glob.keeps I.bk) hcode (TB.code.keeps I.bk) oP tri hc bP fun ctv hN tk up sz => ?_
    obtain ⟨n1, n2, n3⟩ := far _ sz
    exact go hN.objs.size c' ((X.mg "__name__").getD .none) ctv H _ (I.kept fun b o e => Heap.get?_push_of_some _ (up b o e)) FrE.refl q (Heap.get?_push_size _ rfl) (I.hok.fresh sz) n1 n2 n3 hco sz
  | none =>
    refine PySem.W.kla_makeFunction (mg := X.mg) (c := c) (P := P) (ps := ps) (closure_ok hfree) I.ok.glob (I.mod.glob.keeps I.bk) hcode (TB.code.keeps I.bk) oP tri hc TB.gP bP fun c' ctv hN tk up ge lt rc tb => ?_
    obtain ⟨c2, oc, vs, tok, e2, hoc, hd, hv⟩ := rc
    cases e2
    have sz : s.heap.objs.size ≤ hN.objs.size := Nat.le_trans ge (Nat.le_of_lt lt)
    obtain ⟨n1, n2, n3⟩ := far _ sz
    have newC : H c' = none := I.hok.fresh ge
    have J := inv_table (t' := tk) (more := #[rawInt pos.line, rawInt pos.col, .ref c']) (h' := hN.push (PySem.W.kla_obj "<lambda>" (X.env.qual ++ "<lambda>") params body sc (cloFrom X.env.cells sc.names []) ((X.mg "__name__").getD .none) c' ctv)) I hP
      (fun b o hb e => Heap.get?_push_of_some _ (up b o hb e)) (Heap.get?_push_of_some _ tb) ge ⟨oc, vs, tok, Heap.get?_push_of_some _ hoc, hd, hv⟩
    generalize hG : upd (upd H P (.tbl (ps ++ #[rawInt pos.line, rawInt pos.col, .ref c']))) c' (CodeO c' (X.env.qual ++ "<lambda>")) = G at J
    have gC : G c' = some (CodeO c' (X.env.qual ++ "<lambda>")) := by rw [← hG]; exact upd_same
    have gP : G P = some (.tbl (ps ++ #[rawInt pos.line, rawInt pos.col, .ref c'])) := by
      rw [← hG, upd_ne (ne_of_none hP newC), upd_same]
    have gO : ∀ b o, H b = some o → b ≠ P → G b = some o := fun b o e n => by
      rw [← hG, upd_ne (ne_of_none e newC), upd_ne n]; exact e
    have gS : ∀ a o, H a = some o → (∀ qs, o ≠ .tbl qs) → G a = some o := fun a o e n => gO a o e fun z => by
      rw [z, hP] at e
      exact n _ (Option.some.inj e).symm
    refine go hN.objs.size c' ((X.mg "__name__").getD .none) ctv G _ J (fun a o e n => gO a o e fun z => n (z ▸ sP)) (q.tables (fun a o z e => gO a o e fun y => tbl_drA q hP (y ▸ z)) fun p hp => ?_) (Heap.get?_push_size _ rfl) ?_ n1 n2 n3 gC sz
    · by_cases hb : p.1 = P
      · rw [M.uni p hp hb, hb]
        refine ⟨_, gP, ?_, fun p' cv hcv => ?_⟩
        · rw [Array.toList_append]
          exact PySem.TriplesOk_snoc _ _ _ _ tri
        · rw [Array.toList_append] at hcv
          rcases among_app _ tri hcv with z | z
          · obtain ⟨c0, e1, e2⟩ := amo p' cv z
            exact ⟨c0, e1, gS _ _ e2 codeO_ne⟩
          · exact ⟨c', z, gC⟩
      · obtain ⟨qs, a1, a2, a3⟩ := q.tb p hp
        refine ⟨qs, gO _ _ a1 hb, a2, fun p' cv hcv => ?_⟩
        obtain ⟨c0, e1, e2⟩ := a3 p' cv hcv
        exact ⟨c0, e1, gS _ _ e2 codeO_ne⟩
    · rw [← hG, upd_ne (Nat.ne_of_gt lt), upd_ne (Nat.ne_of_gt (Nat.lt_of_lt_of_le (Heap.lt_size oP) sz))]
      exact I.hok.fresh sz
end
end Pf
end

section
set_option Elab.async false
set_option linter.all false
set_option maxRecDepth 100000
namespace Pf
open PySem PySem.Spec PyProof.Rows L2 LamX
variable [TabsC]

/-- the lambda captures cells of the maker, and no more -/
structure ScM (X : Cx) (sc : Scope) : Prop where
  base : ScL sc
  cells : ∀ y ∈ sc.names, y.2 = .free → X.env.scope.names.lookup y.1 = some .cell ∧ X.fn y.1 = true
section
variable {X : Cx} {pins : List (Addr × Obj)} {σ : L2.St} {H : Hp} {s : Shared} {sc : Scope}
theorem ScM.free (M : ScM X sc) (I : Inv X pins σ H s) : ∀ y ∈ sc.names, y.2 = .free → ∃ c, X.env.cells.lookup y.1 = some c := fun y hy e => I.ok.has _ (.inl (M.cells y hy e).1)
theorem ScM.got (M : ScM X sc) (I : Inv X pins σ H s) {y : Str} {c : Addr} (e : (cloFrom X.env.cells sc.names []).lookup y = some c) : (y, NameKind.free) ∈ sc.names ∧ X.env.cells.lookup y = some c := by
  rcases cloFrom_mem (PySem.mem_of_lookup e) with z | ⟨h1, h2⟩
  · cases z
  · obtain ⟨c1, hc⟩ := M.free I _ h1 rfl
    have hc : X.env.cells.lookup y = some c1 := hc
    have e2 : c = c1 := by
      rw [h2, hc] <;> rfl
    exact ⟨h1, e2 ▸ hc⟩
/-- a cell that the def made is no frame -/
theorem cell_far (I : Inv X pins σ H s) {y : Str} {c : Addr} (e : X.env.cells.lookup y = some c) (hf : X.fn y = true) : c ∉ frs X.stack := fun z => by
  rcases List.mem_cons.mp (I.stkSub _ z) with z | z
  · exact I.cne y c e z
  · obtain ⟨_, o, ho, _⟩ := I.ok.funs.mem z
    exact absurd (Heap.lt_size ho) (Nat.not_lt.mpr (I.ok.cab y c hf e))
theorem lamV_of {B : Heap} (M : ScM X sc) (I : Inv X pins σ H s) (k : ∀ b o, s.heap.get? b = some o → H b = none → b ∉ frs X.stack → (∃ y, X.env.cells.lookup y = some b) → B.get? b = some o) : LamV B X.N σ sc (cloFrom X.env.cells sc.names []) := by
  have up : ∀ {y c v}, (y, NameKind.free) ∈ sc.names → X.env.cells.lookup y = some c → s.heap.IsCell c v → B.IsCell c v := fun {y c v} hy e ⟨o, h1, h2⟩ =>
    ⟨o, k _ _ h1 (I.freeC y c e) (cell_far I e (M.cells _ hy rfl).2) ⟨y, e⟩, h2⟩
  refine ⟨I.len, fun y hy => ?_, fun y z c e1 e2 => I.ok.inj y z c (M.got I e1).2 (M.got I e2).2, fun y c e => ?_, fun i y v e1 e2 hy => ?_⟩
  · exact mem_lookup (cloFrom_has (cells := X.env.cells) (acc := []) (PySem.mem_of_lookup hy))
  · obtain ⟨h1, h2⟩ := M.got I e
    obtain ⟨v, z⟩ := I.cell y c h2
    exact ⟨v, up h1 h2 z⟩
  · have hm := PySem.mem_of_lookup hy
    obtain ⟨c, hc⟩ := mem_lookup (cloFrom_has (cells := X.env.cells) (acc := []) hm)
    have h2 := (M.got I hc).2
    have kc := (M.cells _ hm rfl).1
    obtain ⟨mp, _, hl⟩ := I.loc
    obtain ⟨u, ru, q⟩ := hl i y v e1 e2 (.inr (.inl kc))
    rcases q with ⟨z, _⟩ | ⟨_, c3, e3, z⟩
    · have z : X.env.scope.names.lookup y = some .local := z
      rw [show X.env.scope.names.lookup y = some .cell from kc] at z
      cases z
    · rw [h2] at e3
      cases e3
      exact ⟨c, u, hc, ru, up hm h2 z⟩
end

/-! ### one's own lists out of sight -/
def hid : SD → SD
  | .own _ => .no
  | .ownd _ => .no
  | .lckd _ => .no
  | x => x
theorem hid_own {x : SD} : ¬ isOwn (hid x) := by
  cases x <;> exact fun z => z
section
variable {K : PySem.W.Frag} {mg : Str → Option Value} {O : Addr → Prop} {st : StA} {σ : L2.St} {H : Hp} {ρ : En} {S : DS}
abbrev OO (O : Addr → Prop) (σ : L2.St) (ρ : En) : Addr → Prop := fun a => O a ∨ ownA σ ρ a
theorem hid_at {i : Nat} {x : SD} (e : (ρ.map hid)[i]? = some x) : ∃ y, ρ[i]? = some y ∧ hid y = x := by
  rw [List.getElem?_map] at e
  cases h : ρ[i]? with
  | none => rw [h] at e; cases e
  | some y => rw [h] at e; exact ⟨y, rfl, Option.some.inj e⟩
theorem own_hid {a : Addr} : ¬ ownA σ (ρ.map hid) a := fun ⟨i, x, e, h, _⟩ => by
  obtain ⟨y, _, rfl⟩ := hid_at e
  exact hid_own h
theorem av_hid {a : Addr} (z : AV (OO O σ ρ) st σ (ρ.map hid) a) : AV O st σ ρ a := by
  rcases z with (z | z) | z | z
  · exact .inl z
  · exact .inr (.inr z)
  · exact .inr (.inl z)
  · exact (own_hid z).elim
theorem av0_hid {a : Addr} (z : AV O st σ ρ a) : AV0 (OO O σ ρ) st a := by
  rcases z with z | z | z
  · exact .inl (.inl z)
  · exact .inr z
  · exact .inl (.inr z)
theorem av_hid2 {a : Addr} (z : AV O st σ ρ a) : AV (OO O σ ρ) st σ (ρ.map hid) a := (av0_hid z).elim .inl fun q => .inr (.inl q)
theorem Sim.hide (s : Sim K mg O st σ H ρ S) : Sim K mg (OO O σ ρ) st σ H (ρ.map hid) S := by
  refine ⟨by rw [s.len, List.length_map], fun i x e => ?_, fun i j x y a e _ h => ?_, fun a z => (own_hid z).elim, fun a z => ?_, s.state, s.sin, fun a z => ?_⟩
  · obtain ⟨y, e1, rfl⟩ := hid_at e
    obtain ⟨o, e2, q⟩ := s.slot i y e1
    refine ⟨o, e2, ?_⟩
    cases q with
    | no => exact .no
    | lam => exact .lam
    | val r => exact .val (r.weak fun a z => av_hid z)
    | own _ _ => exact .no
    | ownd _ _ => exact .no
    | lckd _ _ => exact .no
  · obtain ⟨y, _, rfl⟩ := hid_at e
    exact (hid_own h).elim
  · rcases z with z | z
    · exact s.there a z
    · exact s.hard z
  · rcases z with z | z
    · exact s.off a z
    · exact (s.far a z).2
end

/-! ### _law_caught(lambda: ..) -/
def rCau (cs : List Str) : Res D → Res D
  | .ok _ S => .ok .non S
  | .exc (c, p) S => if c ∈ cs then .ok (.exc c p) S else .bad
  | .bad => .bad
def mCauL (cs : List Str) (m : M D) : M D := fun ρ S => rCau cs (m (ρ.map hid) S)
structure CauT (P : Program) (w : World) (K : PySem.W.Frag) (mg : Str → Option Value) (x : Str) (cs : List Str) : Prop where
  ex : ∃ (a CP : Addr) (fd : FuncData) (ac : Str), mg x = some (.ref a) ∧ PySem.W.keepIn K (.ref a) = true ∧ Binds K fd [ac] [] ∧ (∀ (B : Heap) (k : Nat), FnOk P w K mg B (L2.CX P w) (k + 1) a fd [ac] (spCau P w K mg B k CP)) ∧
    ∀ c ∈ cs, ∀ C, mg c = some (.ref C) → PySem.W.exmOne K (.ref C) (.ref CP) = some true
/-- what the caught lambda's end gives -/
theorem cau_good {K : PySem.W.Frag} {mg : Str → Option Value} {CP : Addr} {cs : List Str} {O : Addr → Prop} {st : StA} {σ : L2.St} {ρ : En} {H : Hp} {S : DS} {r : Res D} {Q Q' : VK} {E E' : XK}
    (hx : ∀ c ∈ cs, ∀ C, mg c = some (.ref C) → PySem.W.exmOne K (.ref C) (.ref CP) = some true) (s : Sim K mg O st σ H ρ S) (g : Good K mg E (RfD K mg) O st σ ρ H (rCau cs r) Q)
    (h1 : ∀ cls d H', kept K CP Q cls d H' → E' cls d H') (h2 : ∀ v H', Q .non H' → Q' v H') : Good K mg E' (RfD K mg) (OO O σ ρ) st σ (ρ.map hid) H r Q' := by
  cases r with
  | bad => exact g.elim
  | ok d S' => exact fun v H' f q _ => h2 v H' (g .non H' f q .non)
  | exc x S' =>
    obtain ⟨c, p⟩ := x
    have g : Good K mg E (RfD K mg) O st σ ρ H (if c ∈ cs then .ok (.exc c p) S' else .bad) Q := g
    by_cases hc : c ∈ cs
    case neg => rw [if_neg hc] at g; exact g.elim
    rw [if_pos hc] at g
    refine fun cls dx H' f q xr => h1 cls dx H' ?_
    have s' := s.ext f q
    cases p with
    | none =>
      obtain ⟨C, hC, rfl, rfl⟩ := xr
      refine ⟨hx c hc C hC, fun a ha φ hk => g _ _ (f.trans (FrE.laid ha)) (q.laid ha) (.exc0 (s'.new ha) hC upd_same fun h z => ?_)⟩
      obtain ⟨o, vs, z1, z2, z3, z4⟩ := hk h z
      exact ⟨o, vs, z1, z2, z3, z4⟩
    | some fd =>
      obtain ⟨fn, d⟩ := fd
      obtain ⟨C, b, v, hC, rfl, rfl, nb, hb, rv⟩ := xr
      refine ⟨hx c hc C hC, fun a ha φ hk => ?_⟩
      have fl : FrE st H' (upd H' a (.ext φ)) := FrE.laid ha
      refine g _ _ (f.trans fl) (q.laid ha) (.exc1 (s'.new ha) (fun z => nb (av0_hid z)) hC upd_same (fun h z => ?_) (by rw [upd_ne (ne_of_none hb ha)]; exact hb) ((rv.weak fun a z => av0_hid z).frm fl.frm))
      obtain ⟨o, vs, z1, z2, z3, z4⟩ := hk h z
      exact ⟨o, vs, z1, z2, z3, z4⟩
section
variable {X : Cx} {E : XK} {k : Nat} {x : Str} {cs : List Str} {params : Arguments} {body : Expr} {sc : Scope} {m : M D} {P : Addr} {p1 lpos pos : Pos}
theorem re_caughtL (T : CauT X.prog X.w X.K X.mg x cs) (cx : Ctx X E (k + 2)) (hg : Gl X x) (Mk : LamMk X P) (hdef : defaultsOf params X.env = ([], [])) (L : ScM X sc)
    (hbind : ∀ (q : Str) (cl : List (Str × Addr)) (pm cv ctv : Value), bindArgs (PySem.W.kla_fn "<lambda>" q params body sc cl pm cv ctv) ⟨[], []⟩ = pure [])
    (hbody : ∀ (B : Heap) (A : Around) (out : List Env) (t : Shared) (G : Hp) (E : XK) (f c' : Addr) (cl : List (Str × Addr)), Ctx (lmX X.prog X.w X.K X.mg B X.N A out t G E (X.env.qual ++ "<lambda>") sc f c' cl) E k →
      RE (lmX X.prog X.w X.K X.mg B X.N A out t G E (X.env.qual ++ "<lambda>") sc f c' cl) E body m)
    (hdb : (x == ("__debug__" : Str)) = false := by decide) : RE X E (.Call (.Name x p1) [.Lambda params body sc lpos] [] pos) (mCauL cs m) := by
  obtain ⟨a, CP, fd, ac, hm, hk, hb, ok, hx⟩ := T.ex
  refine ⟨fun pins s σ H Q I h => ?_⟩
  obtain ⟨O, st, ρ, S, sm, g⟩ := h
  refine wpAny_Call_Name_kw (ld_glob I hg hm ?_ hdb)
  refine PySem.W.callWith_K (h₀ := X.base) I.ok.mod.kin hk ?_ (by rfl) (by rfl)
  show wpAny _ _ (spliced ((false, eval (.Lambda params body sc lpos) X.env) :: backTo pos (starEach [] X.env))) _ _ s
  refine Calls.spliced_cons (lam_make I Mk sm.state hdef (L.free I) fun f c' pm ctv H1 t J fr q1 hf hfn n1 n2 n3 hco hsz => ?_)
  refine Calls.spliced_nil ⟨J.kIn, ?_⟩
  have s1 := sm.ext fr q1
  have hfB := newBase_get (l := X.stack) hf hfn n1
  have act := act_of (k := k) hfB L.base (lamV_of (B := newBase t H1 X.stack) L J fun b o e n z _ => newBase_get e n z) (hbind _ _ _ _ _) fun A out t2 G E2 c2 => hbody _ A out t2 G E2 f c' _ c2
  have run := (ok (newBase t H1 X.stack) (k + 1)).run X.A X.stack t H1 ⟨[.ref f], []⟩ [.ref f] [.ref f] Q (fun _ _ _ => False) cx.room (base_env J) (by
    have := hb t [.ref f] J.kIn rfl
    simpa using this) (.cons rfl .nil) ⟨f, _, rfl, act, fun E' Q' h1 h2 => ⟨hco, OO O σ ρ, st, ρ.map hid, S, s1.hide, cau_good hx s1 (g.from fr) h1 h2⟩⟩
  refine wpAny_call (codeAny_mono run fun r t2 hq => ?_)
  cases r with
  | error e => 
    obtain ⟨_, _, _, _, _, _, _, _, _, _, _, _, z⟩ := (show L2.CX X.prog X.w X.stack H1 t (fun _ _ _ => False) e t2 from hq)
    exact z.elim
  | ok fl =>
    cases fl with
    | ret u => exact J.after hq
    | next => exact hq.elim
    | brk => exact hq.elim
    | cont => exact hq.elim
end
end Pf
end

section
set_option Elab.async false
set_option linter.all false
set_option maxRecDepth 100000
namespace Pf
open PySem PySem.Spec PyProof.Rows L2 LamX
variable [TabsC]

/-! ### an end told without slots -/
def GoodC (K : PySem.W.Frag) (mg : Str → Option Value) (E : XK) (O : Addr → Prop) (st : StA) (H : Hp) (r : Res D) (Q : VK) : Prop := match r with
  | .ok d S' => ∀ v H', FrE st H H' → StOk st H' S' → Rep K mg st H' (AV0 O st) v d → Q v H'
  | .exc x S' => ∀ cls dx H', FrE st H H' → StOk st H' S' → XR K mg st H' (AV0 O st) cls dx x → E cls dx H'
  | .bad => False
section
variable {K : PySem.W.Frag} {mg : Str → Option Value} {E : XK} {O O' : Addr → Prop} {st : StA} {σ : L2.St} {ρ : En} {H : Hp} {r : Res D} {Q : VK}
theorem GoodC.of (g : Good K mg E (RfD K mg) O' st σ ρ H r Q) (f : ∀ a, AV O' st σ ρ a → AV0 O st a) : GoodC K mg E O st H r Q := by
  cases r with
  | ok d S' => exact fun v H' h q z => g v H' h q (z.weak f)
  | exc x S' => exact fun cls dx H' h q z => g cls dx H' h q (z.weak fun a y => f a (y.elim .inl fun w => .inr (.inl w)))
  | bad => exact g
theorem GoodC.good (g : GoodC K mg E O st H r Q) (f : ∀ a, AV0 O st a → AV O' st σ ρ a) (f0 : ∀ a, AV0 O st a → AV0 O' st a) : Good K mg E (RfD K mg) O' st σ ρ H r Q := by
  cases r with
  | ok d S' => exact fun v H' h q z => g v H' h q (z.weak f)
  | exc x S' => exact fun cls dx H' h q z => g cls dx H' h q (z.weak f0)
  | bad => exact g
theorem GoodC.from {H' : Hp} (g : GoodC K mg E O st H r Q) (f : FrE st H H') : GoodC K mg E O st H' r Q := by
  cases r with
  | ok d S' => exact fun v H2 h => g v H2 (f.trans h)
  | exc x S' => exact fun cls dx H2 h => g cls dx H2 (f.trans h)
  | bad => exact g
end
/-- what f does when it is called, told from the heap H0 on -/
def LamRun (P : Program) (w : World) (K : PySem.W.Frag) (mg : Str → Option Value) (B : Heap) (k : Nat) (O : Addr → Prop) (st : StA) (H0 : Hp) (f : Addr) (r : DS → Res D) : Prop :=
  ∃ tl, Act P w K mg B k f tl ∧ ∀ (E : XK) (H : Hp) (S : DS) (Q : VK), FrE st H0 H → StOk st H S → GoodC K mg E O st H (r S) Q → tl E H Q
def endOf : RS → Res D
  | .nx _ S => .ok .non S
  | .rt d S => .ok d S
  | .exc x S => .exc x S
  | _ => .bad
/-- error = _law_caught(ask), then mb on the slots -/
def rKnd (n : Nat) (cs : List Str) (mb : MS) (r : Res D) : Res D := match rCau cs r with
  | .ok d S => endOf (mb ((List.replicate n SD.no).set 1 (.val d)) S)
  | .exc x S => .exc x S
  | .bad => .bad
def spKnd (P : Program) (w : World) (K : PySem.W.Frag) (mg : Str → Option Value) (B : Heap) (k : Nat) (kr : Res D → Res D) : Sp := fun vs H Q E => ∃ (f : Addr) (O : Addr → Prop) (st : StA) (S : DS) (r : DS → Res D), vs = [.ref f] ∧ LamRun P w K mg B k O st H f r ∧ StOk st H S ∧
  (∀ a, O a → Hard H a) ∧ (∀ a, O a → ¬ stA st a) ∧ GoodC K mg E O st H (kr (r S)) Q
section
variable {P : Program} {w : World} {K : PySem.W.Frag} {mg : Str → Option Value} {B : Heap} {k : Nat} {a : Addr} {fd : FuncData} {st : Stmt} {x cg ak er : Str} {N : List Str} {cs : List Str} {mb : MS} {p1 p2 p3 p4 p5 : Pos} {ss : List Stmt}
theorem sim_none {O : Addr → Prop} {st : StA} {H : Hp} {S : DS} {σ : L2.St} (q : StOk st H S) (h1 : ∀ a, O a → Hard H a) (h2 : ∀ a, O a → ¬ stA st a) : Sim K mg O st σ H (List.replicate σ.length SD.no) S ∧ ∀ a, ¬ ownA σ (List.replicate σ.length SD.no) a := by
  have no : ∀ (i : Nat) (x : SD), (List.replicate σ.length SD.no)[i]? = some x → x = .no ∧ i < σ.length := fun i x e => by
    have hb := (List.getElem?_eq_some_iff.mp e).1
    rw [List.length_replicate] at hb
    exact ⟨(List.mem_replicate.mp (List.mem_of_getElem? e)).2, hb⟩
  have nown : ∀ a, ¬ ownA σ (List.replicate σ.length SD.no) a := fun a ⟨i, x, e, h, _⟩ => by
    rw [(no i x e).1] at h
    exact h
  refine ⟨⟨by simp, fun i x e => ?_, fun i j x y a e _ h => ?_, fun a z => (nown a z).elim, h1, q, q.sin, h2⟩, nown⟩
  · obtain ⟨rfl, hi⟩ := no i x e
    exact ⟨_, List.getElem?_eq_getElem hi, .no⟩
  · rw [(no i x e).1] at h
    exact h.elim
theorem kind_fn (T : CauT P w K mg cg cs) (F : Fun K x x st a fd) (S : FnScope N [ak] (defScope st)) (hbody : defBody st = .Assign [.Name er p1] (.Call (.Name cg p2) [.Name ak p3] [] p4) p5 :: ss)
    (h0 : N[0]? = some ak) (h1 : N[1]? = some er) (hak : (defScope st).names.lookup ak = some .local) (her : (defScope st).names.lookup er = some .local) (hcg : (defScope st).names.lookup cg = some .globalImplicit)
    (hd : (ak == ("__debug__" : Str)) = false ∧ (er == ("__debug__" : Str)) = false ∧ (cg == ("__debug__" : Str)) = false) (hd2 : (ak == ("__classdict__" : Str)) = false)
    (hsw : ∀ env : Env, env.scope = defScope st → swapsWith (.Call (.Name cg p2) [.Name ak p3] [] p4) (some (.Name er p1)) p5.line env = pure false)
    (rest : ∀ (cdv : Value) (A : Around) (outer : List Env) (s : Shared) (H : Hp) (E : XK), Ctx (cxOf (L2.CX P w) P w K mg B N x (defScope st) a cdv A outer s H E) E (k + 1) →
      Takes (cxOf (L2.CX P w) P w K mg B N x (defScope st) a cdv A outer s H E) (fun cls d _ H => E cls d H) → RSs (cxOf (L2.CX P w) P w K mg B N x (defScope st) a cdv A outer s H E) E ss mb) :
    FnOk P w K mg B (L2.CX P w) (k + 2) a fd [ak] (spKnd P w K mg B k (rKnd N.length cs mb)) := by
  obtain ⟨ca, CP, cfd, ac, hm, hk, hb, ok, hx⟩ := T.ex
  refine F.okX S (fun vs H Q E h => ?_) (fun cdv A outer s H vs Q E hr h => ?_)
  · obtain ⟨f, _, _, _, _, rfl, _⟩ := h
    rfl
  · obtain ⟨f, O, sta, S0, r, rfl, ⟨tl, act, run⟩, q, o1, o2, g⟩ := h
    have tk : Takes (cxOf (L2.CX P w) P w K mg B N x (defScope st) a cdv A outer s H E) (fun cls d _ H => E cls d H) := takes_of rfl rfl rfl rfl
    have cx : Ctx (cxOf (L2.CX P w) P w K mg B N x (defScope st) a cdv A outer s H E) E (k + 1) := ⟨hr, passes_call tk fun _ _ _ _ z => z, rfl⟩
    have hN : 2 ≤ N.length := (List.getElem?_eq_some_iff.mp h1).1
    have lN : (L2.start N [V.ref f]).length = N.length := by
      unfold L2.start
      simp
      omega
    have l0 : (L2.start N [V.ref f])[0]? = some (some (V.ref f)) := by
      unfold L2.start
      simp
    rw [hbody]
    refine ⟨_, pss_cons (ps_set (i := 1) S.nd h1 (.inl her) (pe_call (ok B k) cx.room hcg hm hk hb .nil cx.pass (pa_cons (pe_var (i := 0) h0 (.inl hak) hd.1 hd2) pa_nil) hd.2.2) (hsw _ rfl) (.inr her)) (rest cdv A outer s H E cx tk), ?_⟩
    refine ⟨V.ref f, l0, ?_⟩
    obtain ⟨sm, nown⟩ := sim_none (K := K) (mg := mg) (σ := L2.start N [V.ref f]) q o1 o2
    have av : ∀ a, AV (OO O (L2.start N [V.ref f]) (List.replicate (L2.start N [V.ref f]).length SD.no)) sta (L2.start N [V.ref f]) ((List.replicate (L2.start N [V.ref f]).length SD.no).map hid) a → AV0 O sta a := fun a z => by
      rcases av_hid z with z | z | z
      · exact .inl z
      · exact .inr z
      · exact (nown a z).elim
    have g1 : ∀ (d : D) (S1 : DS), rCau cs (r S0) = .ok d S1 → ∀ v H', FrE sta H H' → StOk sta H' S1 → Rep K mg sta H' (AV0 O sta) v d → tS K mg E mb { nx := fun _ H' => Q .non H', rt := Q } ((L2.start N [V.ref f]).set 1 (some v)) H' := fun d S1 e v H' fr q1 rv => by
      unfold rKnd at g
      rw [e] at g
      have s1 := sm.ext fr q1
      obtain ⟨s2, f2⟩ := s1.set (i := 1) (v := some v) (sd := .val d) (fun z => z) fun _ => .val (rv.weak fun a z => by
        rcases z with z | z | z
        · exact .inl z
        · exact .inr z
        · exact (nown a z).elim)
      have n2 : ∀ a, ¬ ownA ((L2.start N [V.ref f]).set 1 (some v)) ((List.replicate (L2.start N [V.ref f]).length SD.no).set 1 (.val d)) a := fun a z => nown a (own_set (v := some v) (sd := SD.val d) (fun z => z) z)
      refine ⟨O, sta, _, S1, s2, ?_⟩
      rw [lN] at s2 n2 ⊢
      dsimp only at g
      cases eb : mb ((List.replicate N.length SD.no).set 1 (.val d)) S1 with
      | nx ρ' S' => rw [eb] at g; exact fun σ' H2 s3 f3 => g .non H2 (fun a o h n => f3.keep a o (fr a o h n) n (n2 a)) s3.state .non
      | rt d2 S' => rw [eb] at g; exact fun v2 H2 f3 => g v2 H2 fun a o h n => f3 a o (fr a o h n) n (n2 a)
      | exc x S' => rw [eb] at g; exact fun c dx H2 f3 => g c dx H2 fun a o h n => f3 a o (fr a o h n) n (n2 a)
      | bk ρ' S' => rw [eb] at g; exact g.elim
      | ct ρ' S' => rw [eb] at g; exact g.elim
      | bad => rw [eb] at g; exact g.elim
    have g2 : Good K mg E (RfD K mg) O sta (L2.start N [V.ref f]) (List.replicate (L2.start N [V.ref f]).length SD.no) H (rCau cs (r S0)) fun v H' => tS K mg E mb { nx := fun _ H' => Q .non H', rt := Q } ((L2.start N [V.ref f]).set 1 (some v)) H' := by
      cases e : rCau cs (r S0) with
      | ok d S1 =>
        exact fun v H' fr q1 rv => g1 d S1 e v H' fr q1 (rv.weak fun a z => z.elim .inl fun y => .inr (.inl y))
      | exc x S1 =>
        unfold rKnd at g
        rw [e] at g
        exact fun c dx H' fr q1 z => g c dx H' fr q1 z
      | bad =>
        unfold rKnd at g
        rw [e] at g
        exact g
    exact ⟨f, tl, rfl, act, fun E' Q' k1 k2 => run E' H S0 Q' FrE.refl q (GoodC.of (cau_good hx sm g2 k1 k2) av)⟩
end
end Pf
end

section
set_option Elab.async false
set_option linter.all false
set_option maxRecDepth 100000
namespace Pf
open PySem PySem.Spec PyProof.Rows L2 LamX
variable [TabsC]

/-! ### a list comprehension whose parts are told where the block began -/
section
variable {X : Cx}
abbrev bEnv (X : Cx) (sc : Scope) (s : Shared) : Env := compEnvC sc (cellsFrom (s.heap.objs.size + 1) sc.names (cloFrom X.env.cells sc.names [])) s.heap.objs.size X.env
/-- the block's context -/
abbrev bCx (X : Cx) (sc : Scope) (s : Shared) (H : Hp) (fp : List Addr) : Cx := X.blk s H sc (bEnv X sc s) fp
theorem pe_lcK {elt tg iter : Expr} {ifs : List Expr} {sc : Scope} {own : List (Str × Nat)} {pos : Pos} {wi : TI} {g : TG} {tt : L2.St → TT} {te : L2.St → TE} (hc : X.calm = true) (hN : X.N.Nodup) (hi : PI X tg iter wi) (ok : BlkOk X.N X.env.scope sc own)
    (hg : ∀ (pins : List (Addr × Obj)) (σ : L2.St) (s : Shared) (H : Hp) (fp : List Addr), Inv X pins σ H s → (∀ b ∈ fp, FpOk X pins H b) → PG (bCx X sc s H fp) tg g)
    (ht : ∀ (pins : List (Addr × Obj)) (σ : L2.St) (s : Shared) (H : Hp) (fp : List Addr), Inv X pins σ H s → (∀ b ∈ fp, FpOk X pins H b) → PTs (bCx X sc s H fp) ifs (tt σ))
    (he : ∀ (pins : List (Addr × Obj)) (σ : L2.St) (s : Shared) (H : Hp) (fp : List Addr), Inv X pins σ H s → (∀ b ∈ fp, FpOk X pins H b) → PE (bCx X sc s H fp) elt (te σ))
    (hs : ∀ x, foldedSetIterable iter X.env x = pure x := by intro _; rfl) :
    PE X (.ListComp elt [⟨tg, iter, ifs, 0⟩] sc pos) (fun σ H Q => tLc wi g (tt σ) (te σ) (own.map (·.2)) σ H Q) := by
  refine ⟨fun pins s σ H Q I h => ?_⟩
  rw [eval_ListComp]
  have free : ∀ y ∈ sc.names, y.2 = .free → ∃ c, X.env.cells.lookup y.1 = some c := fun y hy e =>
    (ok.free y hy e).elim (fun z => I.ok.has _ (.inl z)) fun z => I.ok.has _ (.inr z)
  refine wpAny_comprehension_free (use := none) rfl hs (closure_ok free) ok.kind (fun y hy e => by rw [ok.uniq y hy, e]) (thn (hi.run pins s σ H _ I h) fun xv s1 hx => thn hx fun itv sA hA => ?_)
  obtain ⟨it, fp, tn, J, HA, rfl, IA, T, stA, fA, turns⟩ := hA
  refine wpAny_newObj_type (newEnv_comp ?_) (by show 0 ≤ sizeLine; decide)
  -- the list to be filled stands at L
  have newL : HA sA.heap.objs.size = none := IA.hok.fresh (Nat.le_refl _)
  obtain ⟨W, ⟨n0, w0⟩, turn⟩ := turns _ newL
  generalize hL : sA.heap.objs.size = L at newL w0 turn
  generalize hB : ({ sA with heap := sA.heap.push { cls := .type "list", data := .seq ([] : List Value).toArray } } : Shared) = sB
  have heapB : sB.heap = sA.heap.push { cls := .type "list", data := .seq ([] : List Value).toArray } := by rw [← hB]
  have IB : Inv X pins σ (upd HA L (.lst [])) sB := by
    rw [← hB]
    refine IA.laid (t' := sA.toks) (fun b o e => Heap.get?_push_of_some _ e) (Nat.le_of_eq hL) ⟨Nat.zero_le _, [], 0, .nil, ?_⟩
    rw [← hL]
    exact Heap.get?_push_size _ rfl
  have fB : ∀ b ∈ fp, FpOk X pins (upd HA L (.lst [])) b ∧ b < sB.heap.objs.size := fun b hb => by
    obtain ⟨o, e, _⟩ := T.obj _ _ stA b hb
    have lt := Heap.lt_size e
    obtain ⟨z1, z2⟩ := fA b hb
    refine ⟨⟨?_, z2⟩, ?_⟩
    · rw [upd_ne (by rw [← hL]; exact Nat.ne_of_lt lt)]
      exact z1
    · rw [heapB, Heap.size_push]
      exact Nat.lt_succ_of_lt lt
  have tnB : tn 0 sB.heap := T.keep _ _ _ stA fun b _ o e => by rw [heapB]; exact Heap.get?_push_of_some _ e
  generalize hHB : upd HA L (.lst []) = HB at IB fB w0
  have fB1 : ∀ b ∈ fp, FpOk X pins HB b := fun b hb => (fB b hb).1
  have I0 : Inv (X.blk sB HB sc (bEnv X sc sB) fp) [] (wipe σ (own.map (·.2))) HB { sB with heap := pushCells (sB.heap.push { cls := .type "dict", data := .dict #[] }) sc.names } := block_start IB ok hN fB
  have pg : PG (X.blk sB HB sc (bEnv X sc sB) fp) tg g := hg pins σ sB HB fp IB fB1
  have pt : PTs (X.blk sB HB sc (bEnv X sc sB) fp) ifs (tt σ) := ht pins σ sB HB fp IB fB1
  have pe : PE (X.blk sB HB sc (bEnv X sc sB) fp) elt (te σ) := he pins σ sB HB fp IB fB1
  show codeAny _ _ (.compStart (.ListComp elt [⟨tg, iter, ifs, 0⟩] sc pos) 0 (.ref it) (.ref L) (bEnv X sc sB)) (compPost (model X.prog X.w) X.A X.xe none (EP X pins σ Q) (.ref L) sB.heap.objs.size) { sB with heap := pushCells (sB.heap.push { cls := .type "dict", data := .dict #[] }) sc.names }
  generalize hce : bEnv X sc sB = ce at I0 pg pt pe ⊢
  have ceL : ce.locals = sB.heap.objs.size := by rw [← hce]; rfl
  generalize hs0 : ({ sB with heap := pushCells (sB.heap.push { cls := .type "dict", data := .dict #[] }) sc.names } : Shared) = s0 at I0 ⊢
  have tn0 : tn 0 s0.heap := T.keep _ _ _ tnB fun b _ o e => by rw [← hs0]; exact pushCells_keeps _ _ _ _ (Heap.get?_push_of_some _ e)
  have no0 : ∀ b ∈ fp, HB b = none := fun b hb => (fB1 b hb).1
  have fpI : ∀ {τ : L2.St} {G : Hp} {t : Shared}, Inv (X.blk sB HB sc ce fp) [] τ G t → (∀ b ∈ fp, G b = none) → ∀ b ∈ fp, FpOk (X.blk sB HB sc ce fp) [] G b := fun I n b hb =>
    ⟨n b hb, (I.ok.exf b hb).1, I.ok.exfs b hb, .inl hb, fun x c e => (I.ok.exf b hb).2 x c e, fun p hp => by
      have hp : p ∈ ([] : List (Addr × Obj)) ++ [] := hp
      simp at hp⟩
  have loop : codeAny (model X.prog X.w) X.A (.compLoop (.ListComp elt [⟨tg, iter, ifs, 0⟩] sc pos) 0 (.ref it) (.ref L) ce) (compPost (model X.prog X.w) X.A X.xe none (EP X pins σ Q) (.ref L) sB.heap.objs.size) s0 := by
    refine compLoop_any (fun n t => ∃ i G, Inv (X.blk sB HB sc ce fp) [] (wipe σ (own.map (·.2))) G t ∧ tn i t.heap ∧ (∀ b ∈ fp, G b = none) ∧ W i n G) ?_ n0 ⟨0, HB, I0, tn0, no0, w0⟩
    rintro n t ⟨i, G, It, tt_, nt, wt⟩
    rcases turn i n G wt with ⟨stop, fin⟩ | ⟨go, Nx, less, step⟩
    · refine thnF (T.done (X.blk sB HB sc ce fp) rfl rfl rfl hc i [] t _ G (fun _ _ => False) It (fpI It nt) tt_ stop) fun r t2 ⟨hr, I2⟩ => ?_
      subst hr
      have back : Inv X pins σ G t2 := IB.call' (ch := fp) I2.os I2.base I2.hok I2.bare fun b hb => by
        obtain ⟨y0, y1, y2, y3, y4, y5⟩ := fB1 b hb
        exact ⟨y3, y1, y4, y5⟩
      have nC : G sB.heap.objs.size = none := by
        rw [← ceL]
        exact I2.free
      obtain ⟨m, hn, _⟩ := I2.loc
      have hn : t2.heap.Ns ce.locals m := hn
      rw [ceL] at hn
      obtain ⟨y0, y1, y2, y3, y4, y5⟩ := IB.fpOk (Nat.le_refl _) nC
      exact ⟨m, hn, fun hZ sb => ⟨.ref L, G, back.turned (t' := t2.toks) (fun b o hb e => (sb.2 b hb).trans e) y0 y1 y3 y4 y5, rfl, fin⟩⟩
    · refine thnF (T.item (X.blk sB HB sc ce fp) rfl rfl rfl hc i [] t _ G (fun _ _ => False) It (fpI It nt) tt_ go) fun r t2 ⟨u, hr, q2⟩ => ?_
      subst hr
      refine thnF q2 fun _ t3 ⟨x, G3, I3, r3, y3, tn3, n3⟩ => ?_
      have I3p := I3.pinned (fpI I3 n3) (T.obj _ _ tn3)
      refine thnF (pg.run _ t3 _ G3 x u _ I3p r3 (step x G3 y3)) fun _ t4 ⟨τ, G4, I4, hw, q4⟩ => thnF (pt.run _ t4 τ G4 _ I4 q4) fun b t5 ⟨G5, I5, q5⟩ => ?_
      have lenW : (wipe σ (own.map (·.2))).length = τ.length := by rw [← hw, wipe_length]
      have next : ∀ {t' : Shared} {G' : Hp}, Inv (X.blk sB HB sc ce fp) ([] ++ pinsAt fp t3.heap) τ G' t' → Nx G' → ∃ m, m < n ∧ ∃ i G, Inv (X.blk sB HB sc ce fp) [] (wipe σ (own.map (·.2))) G t' ∧ tn i t'.heap ∧ (∀ b ∈ fp, G b = none) ∧ W i m G := fun {t' G'} I' nx => by
        obtain ⟨m', lt, wm⟩ := less G' nx
        have at_ : ∀ b ∈ fp, ∀ o, t3.heap.get? b = some o → t'.heap.get? b = some o ∧ G' b = none := fun b hb o e => by
          obtain ⟨z1, z2, _⟩ := I'.pin (b, o) (List.mem_append_right _ (List.mem_append_right _ (mem_pinsAt hb e)))
          exact ⟨z1, z2⟩
        refine ⟨m', lt, i + 1, G', (I'.unpinned (pins := [])).weak lenW (fun j v e => ?_), T.keep _ _ _ tn3 fun b hb o e => (at_ b hb o e).1, fun b hb => ?_, wm⟩
        · rw [← hw] at e
          exact (wipe_some e).1
        · obtain ⟨o, e, _⟩ := T.obj _ _ tn3 b hb
          exact (at_ b hb o e).2
      cases b with
      | true =>
        simp only [if_true] at q5 ⊢
        exact thnF (pe.run _ t5 τ G5 _ I5 q5) fun z t6 ⟨yv, G6, I6, r6, acc, hA, zA, nx⟩ => app_ok (X := X.blk sB HB sc ce fp) I6 hA zA r6 fun t7 I7 => next I7 nx
      | false =>
        simp only [Bool.false_eq_true, if_false] at q5 ⊢
        exact next I5 q5
  exact codeAny_compStart_list loop (T.self X.A 0 _ _ _ tn0 loop)
end
end Pf
end

section
set_option Elab.async false
set_option linter.all false
set_option maxRecDepth 100000
namespace Pf
open PySem PySem.Spec PyProof.Rows L2 LamX
variable [TabsC]

/-! ### a list of (lambda, word) -/
structure LamSp where
  params : Arguments
  body : Expr
  sc : Scope
  lpos : Pos
  due : Str
  cpos : Pos
  tpos : Pos
def LamSp.e (l : LamSp) : Expr := .Tuple [.Lambda l.params l.body l.sc l.lpos, .Constant (.str l.due) 0 l.cpos] 0 l.tpos
abbrev lamO (X : Cx) (l : LamSp) (c : Addr) (pm ctv : Value) : Obj := PySem.W.kla_obj "<lambda>" (X.env.qual ++ "<lambda>") l.params l.body l.sc (cloFrom X.env.cells l.sc.names []) pm c ctv
def AskP (X : Cx) (new : List (Addr × Obj)) : List LamSp → List (Addr × Addr) → Prop
  | [], [] => True
  | l :: Ls, p :: fs => (∃ pm ctv, (p.1, lamO X l p.2 pm ctv) ∈ new) ∧ AskP X new Ls fs
  | _, _ => False
def askD (q : Str) : List LamSp → List (Addr × Addr) → List D
  | l :: Ls, p :: fs => .tup [.lam p.1 p.2 q, .str l.due] :: askD q Ls fs
  | _, _ => []
theorem AskP.more {X : Cx} {new new' : List (Addr × Obj)} (h : ∀ p ∈ new, p ∈ new') : ∀ {Ls : List LamSp} {fs : List (Addr × Addr)}, AskP X new Ls fs → AskP X new' Ls fs
  | [], [], _ => True.intro
  | l :: Ls, p :: fs, ⟨⟨pm, ctv, z⟩, r⟩ => ⟨⟨pm, ctv, h _ z⟩, AskP.more h r⟩
section
variable {X : Cx} {σ : L2.St} {P : Addr} {O : Addr → Prop} {st : StA} {ρ : En} {S : DS}
theorem Sim.code {H : Hp} (s : Sim X.K X.mg O st σ H ρ S) {c : Addr} {φ : Heap → Prop} (h : H c = some (.ext φ)) : ¬ AV O st σ ρ c := fun z => by
  have hd : ¬ Hard H c := fun ⟨o, e, n⟩ => by
    rw [h] at e
    exact n φ (Option.some.inj e).symm
  rcases z with z | (z | ⟨q, z⟩) | z
  · exact hd (s.there c z)
  · have dr := s.state.dr
    cases e : st.dr with
    | none => rw [e] at z; exact z
    | some t =>
      rw [e] at z dr
      obtain ⟨a1, a2, a3⟩ := t
      obtain ⟨h1, h2, h3⟩ := dr
      rcases z with rfl | rfl | rfl
      · exact hd ⟨_, h1, fun φ z => by cases z⟩
      · exact hd ⟨_, h2, fun φ z => by cases z⟩
      · exact hd ⟨_, h3, fun φ z => by cases z⟩
  · obtain ⟨ps, h1, _⟩ := s.state.tb _ z
    exact hd ⟨_, h1, fun φ z => by cases z⟩
  · exact hd (s.hard z)
theorem pinned_new {pins : List (Addr × Obj)} {H : Hp} {s : Shared} {a : Addr} {o : Obj} (I : Inv X pins σ H s) (h1 : s.heap.get? a = some o) (h2 : H a = none) (h3 : a ≠ X.env.locals) (h4 : a ∉ X.fs) (h5 : ∀ v, o.data ≠ .cell v) : Inv X ((a, o) :: pins) σ H s :=
  ⟨I.ok, I.os, I.bare, I.base, I.loc, I.cell, I.free, I.freeC, fun p hp => by
    rcases List.mem_append.mp hp with z | z
    · exact I.pin p (List.mem_append_left _ z)
    · rcases List.mem_cons.mp z with z | z
      · rw [z]; exact ⟨h1, h2, h3, h4, h5⟩
      · exact I.pin p (List.mem_append_right _ z), I.hok, I.len⟩
theorem ask_items (Mk : LamMk X P) {pos : Pos} {E : Value → Shared → Prop} : ∀ (Ls : List LamSp), (∀ l ∈ Ls, defaultsOf l.params X.env = ([], []) ∧ ScM X l.sc) → ∀ (pins : List (Addr × Obj)) (s : Shared) (H : Hp) (Q : List Value → Shared → Prop), Inv X pins σ H s → Sim X.K X.mg O st σ H ρ S →
    (∀ us vs fs new H' s', Inv X (new ++ pins) σ H' s' → FrE st H H' → StOk st H' S → Vals vs us → Reps X.K X.mg st H' (AV O st σ ρ) vs (askD (X.env.qual ++ "<lambda>") Ls fs) → AskP X new Ls fs → us.length = Ls.length → (∀ p ∈ fs, s.heap.objs.size ≤ p.1) → (fs.map (·.1)).Nodup → Q us s') →
    wpAny (model X.prog X.w) X.A (spliced (backTo pos (starEach (Ls.map LamSp.e) X.env))) Q E s
  | [], _, pins, s, H, Q, I, sm, k => Calls.spliced_nil (k [] [] [] [] H s I FrE.refl sm.state .nil .nil True.intro rfl (fun _ h => by cases h) List.nodup_nil)
  | l :: Ls, hl, pins, s, H, Q, I, sm, k => by
    obtain ⟨hdef, hM⟩ := hl l List.mem_cons_self
    show wpAny _ _ (spliced ((false, eval l.e X.env) :: backTo pos (starEach (Ls.map LamSp.e) X.env))) _ _ s
    refine Calls.spliced_cons (wpAny_Tuple_spliced ?_)
    show wpAny _ _ (spliced ((false, eval (.Lambda l.params l.body l.sc l.lpos) X.env) :: backTo l.tpos (starEach [.Constant (.str l.due) 0 l.cpos] X.env))) _ _ s
    refine Calls.spliced_cons (lam_make I Mk sm.state hdef (hM.free I) fun f c pm ctv H1 t J fr q1 hf hfn n1 n2 n3 hco hsz => ?_)
    have s1 := sm.ext fr q1
    have J1 := pinned_new J hf hfn n2 n3 (fun v z => by cases z)
    show wpAny _ _ (spliced ((false, eval (.Constant (.str l.due) 0 l.cpos) X.env) :: backTo l.tpos (starEach [] X.env))) _ _ t
    refine Calls.spliced_cons (thn ((pe_str (x := l.due) (j := 0) (pos := l.cpos) (X := X)).run _ t σ H1 (fun v G => v = .str l.due ∧ G = H1) J1 ⟨rfl, rfl⟩) fun u t2 ⟨v, G, J2, rv, ev, eG⟩ => ?_)
    subst ev eG
    refine Calls.spliced_nil ⟨by show 2 ≤ sizeLine; decide, ?_⟩
    have J3 := layT (xs := [.ref f, .str l.due]) J2 (.cons rfl (.cons rv .nil)) (by show 2 ≤ sizeLine; decide)
    have new2 : G t2.heap.objs.size = none := J2.hok.fresh (Nat.le_refl _)
    have fr2 : FrE st G (upd G t2.heap.objs.size (.frz (tob [.ref f, u]) (.tup [.ref f, .str l.due]))) := FrE.laid new2
    have s3 := s1.ext fr2 (s1.state.laid new2)
    refine ask_items Mk Ls (fun l' h' => hl l' (List.mem_cons_of_mem _ h')) _ _ _ _ J3 s3 fun us vs fs new H' s' I' fr3 q' rr rp ap ln hge hnd => ?_
    have nT := s1.new new2
    have flt : f < t2.heap.objs.size := Heap.lt_size (J2.pin (f, lamO X l c pm ctv) (List.mem_append_right _ List.mem_cons_self)).1
    have hge2 : ∀ p ∈ fs, f < p.1 := fun p hp => by
      have z := hge p hp
      have e : (t2.heap.push (tob [.ref f, u])).objs.size = t2.heap.objs.size + 1 := Heap.size_push ..
      have z2 : (t2.heap.push (tob [.ref f, u])).objs.size ≤ p.1 := z
      rw [e] at z2
      exact Nat.lt_trans flt z2
    have cAv : ¬ AV O st σ ρ c := s1.code hco
    refine k (.ref t2.heap.objs.size :: us) (.ref t2.heap.objs.size :: vs) ((f, c) :: fs) (new ++ [(f, lamO X l c pm ctv)]) H' s' (by rw [List.append_assoc]; exact I') (fr.trans (fr2.trans fr3)) q' (.cons rfl rr) (.cons ?_ rp) ⟨⟨pm, ctv, List.mem_append_right _ List.mem_cons_self⟩, ap.more fun p hp => List.mem_append_left _ hp⟩ (by simp [ln]) (fun p hp => by
      rcases List.mem_cons.mp hp with e | hp
      · rw [e]; exact hsz
      · exact Nat.le_of_lt (Nat.lt_of_le_of_lt hsz (hge2 p hp))) (by
      rw [List.map_cons, List.nodup_cons]
      refine ⟨fun z => ?_, hnd⟩
      obtain ⟨p, hp, e⟩ := List.mem_map.mp z
      exact absurd (hge2 p hp) (by rw [e]; exact Nat.lt_irrefl _))
    exact (Rep.tup (K := X.K) (mg := X.mg) (st := st) nT upd_same (tob_dict _) (.cons (.lam cAv (fr2 _ _ hco (fun z => cAv (.inr (.inl z))))) (.cons (.str _) .nil))).frm fr3.frm
end
end Pf
end

section
set_option Elab.async false
set_option linter.all false
set_option maxRecDepth 100000
namespace Pf
open PySem PySem.Spec PyProof.Rows L2 LamX
variable [TabsC]

/-! ### pins into the context -/
abbrev wp (X : Cx) (ps : List (Addr × Obj)) : Cx := { X with pn := X.pn ++ ps }
section
variable {X : Cx} {σ : L2.St} {H : Hp} {s : Shared} {ps pins : List (Addr × Obj)}
theorem ok_wp (ok : X.Ok) : (wp X ps).Ok := ⟨ok.mod, ok.kind, ok.glob, ok.blt, ok.above, ok.inj, ok.has, ok.cab, ok.hd, ok.frames, ok.stk, ok.exf, ok.bs, ok.bsz, ok.noex, ok.exfs, ok.funs, ok.frf⟩
theorem ok_unwp (ok : (wp X ps).Ok) : X.Ok := ⟨ok.mod, ok.kind, ok.glob, ok.blt, ok.above, ok.inj, ok.has, ok.cab, ok.hd, ok.frames, ok.stk, ok.exf, ok.bs, ok.bsz, ok.noex, ok.exfs, ok.funs, ok.frf⟩
theorem inv_wp (I : Inv X (ps ++ pins) σ H s) : Inv (wp X ps) pins σ H s := ⟨ok_wp I.ok, I.os, I.bare, I.base, I.loc, I.cell, I.free, I.freeC, fun p hp => I.pin p (by rw [← List.append_assoc]; exact hp), I.hok, I.len⟩
theorem inv_unwp (I : Inv (wp X ps) pins σ H s) : Inv X pins σ H s := ⟨ok_unwp I.ok, I.os, I.bare, I.base, I.loc, I.cell, I.free, I.freeC, fun p hp => I.pin p (by
  rcases List.mem_append.mp hp with z | z
  · exact List.mem_append_left _ (List.mem_append_left _ z)
  · exact List.mem_append_right _ z), I.hok, I.len⟩
theorem sp_unwp {D : Ends} {f : Flow} (h : SP (wp X ps) pins D f s) : SP X pins D f s := by
  cases f with
  | next => exact h.elim fun τ h => h.elim fun G h => ⟨τ, G, inv_unwp h.1, h.2⟩
  | brk => exact h.elim fun τ h => h.elim fun G h => ⟨τ, G, inv_unwp h.1, h.2⟩
  | cont => exact h.elim fun τ h => h.elim fun G h => ⟨τ, G, inv_unwp h.1, h.2⟩
  | ret u => exact h.elim fun v h => h.elim fun τ h => h.elim fun G h => ⟨v, τ, G, inv_unwp h.1, h.2⟩
theorem Ctx.wp {E : XK} {k : Nat} (c : Ctx X E k) : Ctx (wp X ps) E k := ⟨c.room, fun pins σ H s e s' I z => c.pass pins σ H s e s' (inv_unwp I) z, c.calm⟩
theorem AskP.len {new : List (Addr × Obj)} : ∀ {Ls : List LamSp} {fs : List (Addr × Addr)}, AskP X new Ls fs → fs.length = Ls.length
  | [], [], _ => rfl
  | l :: Ls, p :: fs, ⟨_, r⟩ => by simp [AskP.len r]
end
section
variable {X : Cx} {E : XK} {P : Addr} {i : Nat} {x : Str} {Ls : List LamSp} {rest : List Stmt} {mr : List (Addr × Addr) → MS} {mb : MS} {p1 p2 p3 : Pos}
/-- x = [(lambda: .., 'n'), ..], then what follows -/
theorem rss_asked (Mk : LamMk X P) (hl : ∀ l ∈ Ls, defaultsOf l.params X.env = ([], []) ∧ ScM X l.sc) (hz : Ls.length ≤ sizeLine) (hN : X.N.Nodup) (hi : X.N[i]? = some x) (hx : X.env.scope.names.lookup x = some .local)
    (hr : ∀ (fs : List (Addr × Addr)) (new : List (Addr × Obj)), AskP X new Ls fs → (fs.map (·.1)).Nodup → RSs (wp X new) E rest (mr fs))
    (hm : ∀ (fs : List (Addr × Addr)) (ρ : En) (S : DS), fs.length = Ls.length → (fs.map (·.1)).Nodup → i < ρ.length → mb ρ S ≠ .bad → mr fs (ρ.set i (.val (.lst (askD (X.env.qual ++ "<lambda>") Ls fs)))) S = mb ρ S)
    (hsw : swapsWith (.List (Ls.map LamSp.e) p2) (some (.Name x p1)) p3.line X.env = pure false) :
    RSs X E (.Assign [.Name x p1] (.List (Ls.map LamSp.e) p2) p3 :: rest) mb := by
  refine ⟨fun pins s σ H D I h => ?_⟩
  obtain ⟨O, st, ρ, S, sm, g⟩ := h
  refine wpAny_execs_cons (thn (Q := fun f t => f = .next ∧ ∃ (p : V) (fs : List (Addr × Addr)) (new : List (Addr × Obj)) (G : Hp), Inv (wp X new) pins (σ.set i (some p)) G t ∧ FrE st H G ∧ StOk st G S ∧ Rep X.K X.mg st G (AV O st σ ρ) p (.lst (askD (X.env.qual ++ "<lambda>") Ls fs)) ∧ AskP X new Ls fs ∧ (fs.map (·.1)).Nodup)
    (wpAny_Assign_Name (wpAny_List_spliced (ask_items Mk Ls hl pins s H _ I sm fun us vs fs new G t J fr q rv rp ap ln hge hnd => ?_)) hsw) fun f t hq => ?_)
  · refine ⟨by rw [ln]; exact hz, ?_⟩
    have nw : G t.heap.objs.size = none := J.hok.fresh (Nat.le_refl _)
    have s1 := sm.ext fr q
    have J2 : Inv X (new ++ pins) σ (upd G t.heap.objs.size (.lst vs)) { t with heap := t.heap.push { cls := .type "list", data := .seq us.toArray } } :=
      J.laid (t' := t.toks) (fun b o e => Heap.get?_push_of_some _ e) (Nat.le_refl _) ⟨by rw [rv.length, ln]; exact hz, us, 0, rv, Heap.get?_push_size _ rfl⟩
    refine store_ok (v := .ref t.heap.objs.size) J2 hN hi (.inl hx) rfl (fun t2 J3 => ?_) (.inr hx)
    exact ⟨rfl, _, fs, new, _, inv_wp J3, fr.trans (FrE.laid nw), q.laid nw, s1.mkL rp nw, ap, hnd⟩
  · obtain ⟨rfl, p, fs, new, G, J, fr, q, rp, ap, hnd⟩ := hq
    have s1 := sm.ext fr q
    obtain ⟨s2, f2⟩ := s1.set (i := i) (v := some p) (sd := .val (.lst (askD (X.env.qual ++ "<lambda>") Ls fs))) (fun z => z) fun _ => .val rp
    have hil : i < ρ.length := by
      rw [← sm.len, I.len]
      exact (List.getElem?_eq_some_iff.mp hi).1
    have nb : mb ρ S ≠ .bad := fun z => by
      rw [z] at g
      exact g
    refine wpAny_mono ((hr fs new ap hnd).run pins t _ G D J ⟨O, st, _, S, s2, ?_⟩) (fun f t2 z => sp_unwp z) fun _ _ z => z
    rw [hm fs ρ S ap.len hnd hil nb]
    exact g.from (fr.fs.trans f2 s1.sin) s2.sin
end
end Pf
end

section
set_option Elab.async false
set_option linter.all false
set_option maxRecDepth 100000
namespace Pf
open PySem PySem.Spec PyProof.Rows L2 LamX
variable [TabsC]

/-! ### _law_kind(ask) in a comprehension over the list of lambdas -/
structure KndT (P : Program) (w : World) (K : PySem.W.Frag) (mg : Str → Option Value) (x : Str) (k : Nat) (kr : Res D → Res D) : Prop where
  ex : ∃ (a : Addr) (fd : FuncData) (ak : Str), mg x = some (.ref a) ∧ PySem.W.keepIn K (.ref a) = true ∧ Binds K fd [ak] [] ∧ ∀ B : Heap, FnOk P w K mg B (L2.CX P w) (k + 2) a fd [ak] (spKnd P w K mg B k kr)
/-- the known lambdas -/
structure LamK (X : Cx) (new : List (Addr × Obj)) (k : Nat) (f c : Addr) (q : Str) (m : M D) : Prop where
  ex : ∃ l : LamSp, q = X.env.qual ++ "<lambda>" ∧ ScM X l.sc ∧ (∃ pm ctv, (f, lamO X l c pm ctv) ∈ new) ∧
    (∀ (q : Str) (cl : List (Str × Addr)) (pm cv ctv : Value), bindArgs (PySem.W.kla_fn "<lambda>" q l.params l.body l.sc cl pm cv ctv) ⟨[], []⟩ = pure []) ∧
    ∀ (B : Heap) (A : Around) (out : List Env) (t : Shared) (G : Hp) (E : XK) (f c' : Addr) (cl : List (Str × Addr)), Ctx (lmX X.prog X.w X.K X.mg B X.N A out t G E (X.env.qual ++ "<lambda>") l.sc f c' cl) E k →
      RE (lmX X.prog X.w X.K X.mg B X.N A out t G E (X.env.qual ++ "<lambda>") l.sc f c' cl) E l.body m
def mKnd (ia : Nat) (vs : List Nat) (Lk : Addr → Addr → Str → Option (M D)) (kr : Res D → Res D) : M D := fun ρ S => match ρ[ia]? with
  | some (.val (.lam f c q)) => match Lk f c q with
    | some m => if vs.all (notOwn ρ) = true then kr (m ((wipeE ρ vs).map hid) S) else .bad
    | none => .bad
  | _ => .bad
theorem LamV.less {B : Heap} {N : List Str} {σ τ : L2.St} {sc : Scope} {cl : List (Str × Addr)} (W : LamV B N σ sc cl) (hl : τ.length = σ.length) (h : ∀ (i : Nat) (v : V), τ[i]? = some (some v) → σ[i]? = some (some v)) : LamV B N τ sc cl :=
  ⟨hl.trans W.len, W.has, W.one, W.cell, fun i y v e1 e2 => W.val i y v e1 (h i v e2)⟩
section
variable {X : Cx} {new pins : List (Addr × Obj)} {σ : L2.St} {s : Shared} {H : Hp} {fp : List Addr} {sc : Scope} {E : XK} {k ia : Nat} {x ask : Str} {vs : List Nat} {Lk : Addr → Addr → Str → Option (M D)} {kr : Res D → Res D} {p1 p2 pos : Pos}
theorem pe_kind (T : KndT X.prog X.w X.K X.mg x (k + 1) kr) (IM : Inv (wp X new) pins σ H s) (hfp : ∀ b ∈ fp, FpOk (wp X new) pins H b) (cx : Ctx (bCx (wp X new) sc s H fp) E (k + 3)) (hLk : ∀ f c q m, Lk f c q = some m → LamK X new k f c q m)
    (hg : Gl (bCx (wp X new) sc s H fp) x) (hi : X.N[ia]? = some ask) (hv : Vis (bCx (wp X new) sc s H fp).env.scope ask) (hdb : (x == ("__debug__" : Str)) = false := by decide) (hd : (ask == ("__debug__" : Str)) = false := by decide) (hcd : (ask == ("__classdict__" : Str)) = false := by decide) :
    PE (bCx (wp X new) sc s H fp) (.Call (.Name x p1) [.Name ask p2] [] pos) (fun τ G Q => wipe τ vs = wipe σ vs ∧ tG X.K X.mg E (RfD X.K X.mg) (mKnd ia vs Lk kr) τ G Q) := by
  obtain ⟨a, fd, ak, hm, hk, hb, ok⟩ := T.ex
  refine ⟨fun pins' s' τ G Q I' h => ?_⟩
  obtain ⟨hw, O, st, ρ, S, sm, g⟩ := h
  unfold mKnd at g
  split at g
  case h_2 => exact g.elim
  rename_i f c q e
  split at g
  case h_2 => exact g.elim
  rename_i m em
  by_cases hvs : vs.all (notOwn ρ) = true
  case neg => rw [if_neg hvs] at g; exact g.elim
  rw [if_pos hvs] at g
  have hvs : ∀ v ∈ vs, notOwn ρ v = true := fun v hv => List.all_eq_true.mp hvs v hv
  obtain ⟨l, rfl, hM, ⟨pm, ctv, hin⟩, hbind, hbody⟩ := (hLk f c q m em).ex
  obtain ⟨o, e1, sl⟩ := sm.slot ia _ e
  cases sl with
  | val rl =>
  cases rl with
  | lam nc hc =>
  refine wpAny_Call_Name_kw (ld_glob I' hg hm ?_ hdb)
  refine PySem.W.callWith_K (h₀ := X.base) IM.ok.mod.kin hk (thn ((pa_cons (pe_var (X := bCx (wp X new) sc s H fp) (pos := p2) (i := ia) hi hv hd hcd) pa_nil).run pos pins' s' τ G (fun vs G1 => vs = [.ref f] ∧ G1 = G) I' ⟨.ref f, e1, rfl, rfl⟩) fun us s1 ⟨vl, G1, I1, r, ev, eG⟩ => ⟨I1.kIn, ?_⟩) (by rfl) (by rfl)
  subst ev eG
  -- what stands untracked where the block began stands there now
  have pin := IM.pin (f, lamO X l c pm ctv) (List.mem_append_left _ (List.mem_append_right _ hin))
  obtain ⟨f1, f2, f3, f4, _⟩ := pin
  have fin : f ∉ fp := fun z => (hfp f z).2.2.2.2.2 _ (List.mem_append_left _ (List.mem_append_right _ hin)) rfl
  have un : Un (frs X.stack) fp H G1 s.heap s1.heap := I1.base
  have ffr : f ∉ frs X.stack := fun z => (List.mem_cons.mp (IM.stkSub _ z)).elim f3 f4
  have hfB : (newBase s1 G1 X.stack).get? f = some (lamO X l c pm ctv) := newBase_get (un.keep f _ f1 f2 ffr fin) (un.free f _ f1 f2 fin) ffr
  have V := lamV_of (X := wp X new) (sc := l.sc) (B := newBase s1 G1 X.stack) ⟨hM.base, hM.cells⟩ IM fun b ob z1 z2 z3 ⟨y, z4⟩ => by
    have nb : b ∉ fp := fun z => (hfp b z).2.2.2.2.1 y b z4 rfl
    exact newBase_get (un.keep b _ z1 z2 z3 nb) (un.free b _ z1 z2 nb) z3
  have V2 : LamV (newBase s1 G1 X.stack) X.N (wipe τ vs) l.sc (cloFrom X.env.cells l.sc.names []) := V.less (by rw [hw, wipe_length]) fun i v z => by
    rw [hw] at z
    exact (wipe_some z).1
  have act := act_of (k := k) hfB hM.base V2 (hbind _ _ _ _ _) fun A out t2 G2 E2 c2 => hbody _ A out t2 G2 E2 f c _ c2
  obtain ⟨sW, oW⟩ := sm.wipe vs hvs
  have lr : LamRun X.prog X.w X.K X.mg (newBase s1 G1 X.stack) (k + 1) (OO O (wipe τ vs) (wipeE ρ vs)) st G1 f (fun S => m ((wipeE ρ vs).map hid) S) := by
    refine ⟨_, act, fun E2 H2 S2 Q2 fr q2 g2 => ⟨fr _ _ hc fun z => nc (.inr (.inl z)), OO O (wipe τ vs) (wipeE ρ vs), st, (wipeE ρ vs).map hid, S2, ?_, ?_⟩⟩
    · exact Sim.hide sW |>.ext fr q2
    · exact g2.good (fun a z => z.elim .inl fun y => .inr (.inl y)) fun a z => z
  have run := (ok (newBase s1 G1 X.stack)).run X.A X.stack s1 G1 ⟨us, []⟩ us [.ref f] Q E cx.room (base_env (X := bCx (wp X new) sc s H fp) I1) (by
    have := hb s1 us I1.kIn (by rw [List.append_nil, ← r.length]; rfl)
    simpa using this) r ⟨f, _, st, S, _, rfl, lr, sm.state, sW.hide.there, sW.hide.off, GoodC.of g fun a z => by
      rcases z with z | z | z
      · exact .inl (.inl z)
      · exact .inr z
      · exact .inl (.inr ((oW a).mpr z))⟩
  refine wpAny_call (codeAny_mono run fun r t2 hq => ?_)
  cases r with
  | error e => exact cx.pass _ _ _ _ _ _ I1 hq
  | ok fl =>
    cases fl with
    | ret u => exact I1.after hq
    | next => exact hq.elim
    | brk => exact hq.elim
    | cont => exact hq.elim
end
end Pf
end

section
set_option Elab.async false
set_option linter.all false
set_option maxRecDepth 100000
namespace Pf
open PySem PySem.Spec PyProof.Rows L2 LamX
variable [TabsC]

/-! ### readings with a word on the slots carried along -/
abbrev wC {α : Type} (C : L2.St → Prop) (t : L2.St → Hp → α → Prop) : L2.St → Hp → α → Prop := fun σ H Q => C σ ∧ t σ H Q
section
variable {X : Cx} {E : XK} {C : L2.St → Prop} {e a : Expr} {es : List Expr} {m : M D} {mt : M Bool} {ms : M (List D)} {pos p1 : Pos} {x : Str} {j k : Nat} {ps : List Str} {f : List D → DS → Res D} {st : Stmt}
theorem rac_cons (ha : PE X e (wC C (tG X.K X.mg E (RfD X.K X.mg) m))) (hr : RA X E es ms) (hs : starEach (e :: es) X.env = (false, eval e X.env) :: starEach es X.env := by rfl) : PA X (e :: es) (wC C (tG X.K X.mg E (RfL X.K X.mg) (mCons m ms))) :=
  PAimp (pa_cons ha hr hs) fun σ H Q ⟨hC, h⟩ => ⟨hC, tG_mono (tG_bnd (R1 := RfD X.K X.mg) h) fun y H1 h1 => tG_mono (tG1_k (R2 := RfL X.K X.mg) RfD.stable h1) fun ys H2 ⟨O, st, ρ, S, d, ds, s, r1, r2, g⟩ => g _ _ FrE.refl s.state (.cons r1 r2)⟩
theorem rec_call (d : Df X.prog X.w X.K X.mg X.base j x ps f st) (c : Ctx X E k) (hjk : j ≤ k) (hg : Gl X x) (ha : PA X (e :: es) (wC C (tG X.K X.mg E (RfL X.K X.mg) ms))) (hdb : (x == ("__debug__" : Str)) = false := by decide)
    (he : starEach (e :: es) X.env = (false, eval e X.env) :: starEach es X.env := by rfl) (hpl : (backTo pos (starEach es X.env)).any (·.1) = false := by rfl) :
    PE X (.Call (.Name x p1) (e :: es) [] pos) (wC C (tG X.K X.mg E (RfD X.K X.mg) (mCall ps.length ms f))) := by
  obtain ⟨at_, fd, hm, F, hb, ok⟩ := d.ex
  refine PEimp (pe_call ok (c.room.mono hjk) hg hm F.kp hb .nil c.pass ha hdb he hpl) fun σ H Q ⟨hC, h⟩ => ⟨hC, tG_mono (tG_bnd (R1 := RfL X.K X.mg) h) fun ys H1 h1 => ?_⟩
  obtain ⟨O, st, ρ, S, ds, s, r, g⟩ := h1
  rw [List.append_nil]
  exact sp_of s r g
theorem rtc_val (h : PE X e (wC C (tG X.K X.mg E (RfD X.K X.mg) m))) (he : ∀ whole, isTrue e X.env whole = (do let v ← whole; standAt e.pos; holding [v] (truthy v)) := by intro _; rfl) : PT X e (wC C (tG X.K X.mg E RfB (bnd m asB))) :=
  PTimp (pt_val h he) fun σ H Q ⟨hC, q⟩ => ⟨hC, tG_mono (tG_bnd (R1 := RfD X.K X.mg) q) fun y H1 h1 => by
    obtain ⟨O, st, ρ, S, d, s, r, g⟩ := h1
    cases d <;> simp only [asB] at g <;> try (exact g.elim)
    cases r
    exact ⟨_, rfl, g _ _ FrE.refl s.state rfl⟩⟩
theorem rtc_not (h : PT X a (wC C (tG X.K X.mg E RfB mt))) : PT X (.UnaryOp .Not a pos) (wC C (tG X.K X.mg E RfB (mNotT mt))) := PTimp (pt_not h) fun σ H Q ⟨hC, h⟩ => ⟨hC, tG_mono (tG_bnd (R1 := RfB) h) fun b H1 h1 => by
  obtain ⟨O, st, ρ, S, b', s, rfl, g⟩ := h1
  exact g _ _ FrE.refl s.state rfl⟩
end

/-! ### the comprehension told its block's start -/
theorem lcC_read {K : PySem.W.Frag} {mg : Str → Option Value} {E : XK} {ms : M (List D)} {vs : List Nat} {g : GP} {mt : M Bool} {me : M D} {σ : L2.St} {H : Hp} {Q : VK} (h : tN K mg E (mLc ms vs g mt me) σ H Q) :
    tLc (tG K mg E (RfC K mg) ms) (tTc K mg vs g) (wC (fun τ => wipe τ vs = wipe σ vs) (tG K mg EN RfB mt)) (tG K mg EN (RfD K mg) me) vs σ H Q := by
  obtain ⟨O, st, ρ, S, s, g0⟩ := lc_read h
  refine ⟨O, st, ρ, S, s, ?_⟩
  have mono : ∀ {r : Res (List D)} {Q1 Q2 : It → Hp → Prop}, (∀ J H, Q1 J H → Q2 J H) → Good K mg E (RfC K mg) O st σ ρ H r Q1 → Good K mg E (RfC K mg) O st σ ρ H r Q2 := fun {r Q1 Q2} i z => by
    cases r with
    | ok d S' => exact fun v H' f q y => i _ _ (z v H' f q y)
    | exc x S' => exact z
    | bad => exact z
  refine mono (fun J H1 h1 L hL => ?_) g0
  obtain ⟨W, w0, turn⟩ := h1 L hL
  refine ⟨W, w0, fun i n G w => (turn i n G w).imp (fun z => z) fun ⟨go, Nx, less, step⟩ => ⟨go, Nx, less, fun y G' hy => ?_⟩⟩
  obtain ⟨O2, st2, ρ2, S2, d, s2, r, ρ', e, k⟩ := step y G' hy
  exact ⟨O2, st2, ρ2, S2, d, s2, r, ρ', e, fun τ a b c => (fun z => ⟨z.1, z.1, z.2⟩) (k τ a b c)⟩
section
variable {X : Cx} {E : XK} {elt iter tg : Expr} {ifs : List Expr} {me : M D} {ms : M (List D)} {mt : M Bool} {g : GP} {scope : Scope} {own : List (Str × Nat)} {pos : Pos}
theorem rn_lcK (hc : X.calm = true) (hN : X.N.Nodup) (hi : RIc X E tg iter ms) (ok : BlkOk X.N X.env.scope scope own)
    (hg : ∀ (s : Shared) (H : Hp) (fp : List Addr), RC (bCx X scope s H fp) (own.map (·.2)) tg g)
    (ht : ∀ (pins : List (Addr × Obj)) (σ : L2.St) (s : Shared) (H : Hp) (fp : List Addr), Inv X pins σ H s → (∀ b ∈ fp, FpOk X pins H b) → PTs (bCx X scope s H fp) ifs (wC (fun τ => wipe τ (own.map (·.2)) = wipe σ (own.map (·.2))) (tG X.K X.mg EN RfB mt)))
    (he : ∀ (s : Shared) (H : Hp) (fp : List Addr), RE (bCx X scope s H fp) EN elt me)
    (hs : ∀ x, foldedSetIterable iter X.env x = pure x := by intro _; rfl) : RN X E (.ListComp elt [⟨tg, iter, ifs, 0⟩] scope pos) (mLc ms (own.map (·.2)) g mt me) :=
  PEimp (pe_lcK (tt := fun σ => wC (fun τ => wipe τ (own.map (·.2)) = wipe σ (own.map (·.2))) (tG X.K X.mg EN RfB mt)) (te := fun _ => tG X.K X.mg EN (RfD X.K X.mg) me) hc hN hi ok (fun _ _ s H fp _ _ => hg s H fp) ht (fun _ _ s H fp _ _ => he s H fp) hs) fun σ H Q h => lcC_read h
end
end Pf
end

section
set_option Elab.async false
set_option linter.all false
set_option maxRecDepth 100000
namespace Pf
open PySem PySem.Spec PyProof.Rows L2 LamX
variable [TabsC]

/-! ### a def whose code object is known -/
section
variable {P : Program} {w : World} {K : PySem.W.Frag} {mg : Str → Option Value} {base : Heap}
theorem fun_okC {x qual : Str} {st : Stmt} {f c : Addr} {fd : FuncData} {N ps : List Str} {k : Nat} {sp : Sp} (F : Fun K x qual st f fd) (hc : fd.code = .ref c) (S : FnScope N ps (defScope st)) (len : ∀ vs H Q E, sp vs H Q E → vs.length = ps.length)
    (hbody : ∀ (A : Around) (outer : List Env) (s : Shared) (H : Hp) (vs : List V) (Q : VK) (E : XK), Room k (A.deeper (envOfC qual (defScope st) s.heap.objs.size f (.ref c))) → sp vs H Q E →
      ∃ t, PSs (cxOf (L2.CX P w) P w K mg base N qual (defScope st) f (.ref c) A outer s H E) (defBody st) t ∧ t { nx := fun _ H' => Q .non H', rt := Q } (L2.start N vs) H) : FnOk P w K mg base (L2.CX P w) (k + 1) f fd ps sp := by
  obtain ⟨oc, od, kV, doc, pm, an, cdv, ct, osl, rfl, lk, hcd⟩ := F.ex
  obtain rfl : cdv = .ref c := hc
  exact fn_of lk hcd S len fun A outer s H vs Q E hr hsp => hbody A outer s H vs Q E hr hsp
theorem df_ofC {x : Str} {st : Stmt} {a c : Addr} {fd : FuncData} {N ps : List Str} {k : Nat} {mb : MS} (F : Fun K x x st a fd) (hc : fd.code = .ref c) (hm : mg x = some (.ref a)) (S : FnScope N ps (defScope st)) (hb : Binds K fd ps [])
    (body : ∀ (A : Around) (outer : List Env) (s : Shared) (H : Hp) (E : XK), Ctx (cxOf (L2.CX P w) P w K mg base N x (defScope st) a (.ref c) A outer s H E) E k → PassesOwn (model P w) (cxOf (L2.CX P w) P w K mg base N x (defScope st) a (.ref c) A outer s H E).A (cxOf (L2.CX P w) P w K mg base N x (defScope st) a (.ref c) A outer s H E).env (cxOf (L2.CX P w) P w K mg base N x (defScope st) a (.ref c) A outer s H E).xe →
      Takes (cxOf (L2.CX P w) P w K mg base N x (defScope st) a (.ref c) A outer s H E) (fun cls d _ H => E cls d H) →
      RSs (cxOf (L2.CX P w) P w K mg base N x (defScope st) a (.ref c) A outer s H E) E (defBody st) mb) : Df P w K mg base (k + 1) x ps (runFn N.length mb) st := by
  refine ⟨a, fd, hm, F, hb, fun_okC F hc S (fun vs H Q E h => ?_) (fun A outer s H vs Q E hr h => ?_)⟩
  · obtain ⟨O, st, S, ds, e, r, _⟩ := h
    rw [r.length, e]
  · obtain ⟨O, sta, S0, ds, e, r, q, h1, h2, h3⟩ := h
    have tk : Takes (cxOf (L2.CX P w) P w K mg base N x (defScope st) a (.ref c) A outer s H E) (fun cls d _ H => E cls d H) := takes_of rfl rfl rfl rfl
    refine ⟨_, body A outer s H E ⟨hr, passes_call tk fun _ _ _ _ z => z, rfl⟩ (passes_of rfl) tk, ?_⟩
    obtain ⟨s1, n1⟩ := sim_start (N := N) r q h1 h2
    refine ⟨O, sta, _, S0, s1, ?_⟩
    unfold runFn at h3
    cases eb : mb (ds.map SD.val ++ List.replicate (N.length - ds.length) SD.no) S0 with
    | nx ρ' S' => rw [eb] at h3; exact fun σ' H' s' f' => h3 .non H' (fun a o h n => f'.keep a o h n (n1 a)) s'.state .non
    | rt d S' => rw [eb] at h3; exact fun v H' f' => h3 v H' (fun a o h n => f' a o h n (n1 a))
    | exc x S' => rw [eb] at h3; exact fun c dx H' f' => h3 c dx H' (fun a o h n => f' a o h n (n1 a))
    | bk ρ' S' => rw [eb] at h3; exact h3.elim
    | ct ρ' S' => rw [eb] at h3; exact h3.elim
    | bad => rw [eb] at h3; exact h3.elim
end
end Pf
namespace Pf
open PySem PySem.Spec PyProof.Rows L2 LamX
variable [TabsC]
/-! ### what a def asks that makes lambdas -/
def scMB (sc0 sc : Scope) : Bool := decide (sc.kind = .function) && !sc.isCoroutine && !sc.isGenerator && sc.names.all fun y => !decide (y.2 = .local) && !decide (y.2 = .cell) && (!decide (y.2 = .free) || decide (sc0.names.lookup y.1 = some .cell))
theorem scM_cx {CXg : CXT} {P : Program} {w : World} {K : PySem.W.Frag} {mg : Str → Option Value} {base : Heap} {N : List Str} {x : Str} {scope sc : Scope} {f : Addr} {cd : Value} {A : Around} {outer : List Env} {s : Shared} {H : Hp} {E : XK} (h : scMB scope sc = true) :
    ScM (cxOf CXg P w K mg base N x scope f cd A outer s H E) sc := by
  unfold scMB at h
  simp only [Bool.and_eq_true, Bool.or_eq_true, Bool.not_eq_true', decide_eq_true_eq, decide_eq_false_iff_not, List.all_eq_true] at h
  obtain ⟨⟨⟨h1, h2⟩, h3⟩, h4⟩ := h
  have at_ : ∀ y ∈ sc.names, y.2 = .free → scope.names.lookup y.1 = some .cell := fun y hy e => (h4 y hy).2.resolve_left fun z => z e
  refine ⟨⟨h1, h2, h3, fun y hy => (h4 y hy).1⟩, fun y hy e => ⟨at_ y hy e, rfl⟩⟩
structure TabF (base : Heap) (mg : Str → Option Value) (c : Addr) (x : Str) : Prop where
  ex : ∃ P, TabB base mg c P ∧ (P, x ++ ".<locals>." ++ "<lambda>") ∈ TabsC.tb ∧ ∀ p ∈ TabsC.tb, p.1 = P → p.2 = x ++ ".<locals>." ++ "<lambda>"
theorem lamMk_cx {CXg : CXT} {P : Program} {w : World} {K : PySem.W.Frag} {mg : Str → Option Value} {base : Heap} {N : List Str} {x : Str} {scope : Scope} {f c : Addr} {A : Around} {outer : List Env} {s : Shared} {H : Hp} {E : XK} (h : TabF base mg c x) :
    ∃ T, LamMk (cxOf CXg P w K mg base N x scope f (.ref c) A outer s H E) T := by
  obtain ⟨T, h1, h2, h3⟩ := h.ex
  exact ⟨T, ⟨c, rfl, h1⟩, h2, h3⟩
end Pf
end

section
set_option Elab.async false
set_option linter.all false
set_option maxRecDepth 100000
namespace Pf
open PySem PySem.Spec PyProof.Rows L2 LamX
variable [TabsC]

/-! ### the known lambdas, one by one -/
structure LamB (X : Cx) (k : Nat) (l : LamSp) (m : M D) : Prop where
  sc : ScM X l.sc
  dflt : defaultsOf l.params X.env = ([], [])
  bind : ∀ (q : Str) (cl : List (Str × Addr)) (pm cv ctv : Value), bindArgs (PySem.W.kla_fn "<lambda>" q l.params l.body l.sc cl pm cv ctv) ⟨[], []⟩ = pure []
  body : ∀ (B : Heap) (A : Around) (out : List Env) (t : Shared) (G : Hp) (E : XK) (f c' : Addr) (cl : List (Str × Addr)), Ctx (lmX X.prog X.w X.K X.mg B X.N A out t G E (X.env.qual ++ "<lambda>") l.sc f c' cl) E k →
      RE (lmX X.prog X.w X.K X.mg B X.N A out t G E (X.env.qual ++ "<lambda>") l.sc f c' cl) E l.body m
inductive LamBs (X : Cx) (k : Nat) : List (LamSp × M D) → Prop
  | nil : LamBs X k []
  | cons {l : LamSp} {m : M D} {r : List (LamSp × M D)} : LamB X k l m → LamBs X k r → LamBs X k ((l, m) :: r)
theorem LamBs.mem {X : Cx} {k : Nat} {Z : List (LamSp × M D)} (h : LamBs X k Z) : ∀ p ∈ Z, LamB X k p.1 p.2 := by
  induction h with
  | nil => intro p hp; cases hp
  | cons b _ ih =>
    intro p hp
    rcases List.mem_cons.mp hp with e | hp
    · rw [e]; exact b
    · exact ih p hp
/-- the mirror does not look at slot i -/
def cut (i : Nat) (m : M D) : M D := fun ρ S => if notOwn ρ i = true then m (ρ.set i .no) S else .bad
theorem own_cut {σ : L2.St} {ρ : En} {i : Nat} (h : notOwn ρ i = true) (a : Addr) : ownA σ (ρ.set i .no) a ↔ ownA σ ρ a := by
  constructor
  · rintro ⟨j, sd, e1, e2, e3⟩
    by_cases c : i = j
    · subst c
      rw [List.getElem?_set] at e1
      split at e1
      · split at e1
        · cases e1; exact e2.elim
        · cases e1
      · contradiction
    · rw [get_set_ne c] at e1
      exact ⟨j, sd, e1, e2, e3⟩
  · rintro ⟨j, sd, e1, e2, e3⟩
    have c : i ≠ j := by
      rintro rfl
      unfold notOwn at h
      rw [e1] at h
      cases sd <;> first | exact e2.elim | (simp at h)
    exact ⟨j, sd, by rw [get_set_ne c]; exact e1, e2, e3⟩
theorem av_cut {O : Addr → Prop} {st : StA} {σ : L2.St} {ρ : En} {i : Nat} (h : notOwn ρ i = true) (a : Addr) : AV O st σ (ρ.set i .no) a ↔ AV O st σ ρ a := by
  unfold AV
  rw [own_cut h]
theorem Sim.cut {K : PySem.W.Frag} {mg : Str → Option Value} {O : Addr → Prop} {st : StA} {σ : L2.St} {ρ : En} {S : DS} {H : Hp} {i : Nat} (s : Sim K mg O st σ H ρ S) (h : notOwn ρ i = true) : Sim K mg O st σ H (ρ.set i .no) S := by
  have av : AV O st σ (ρ.set i .no) = AV O st σ ρ := funext fun a => propext (av_cut h a)
  have back : ∀ (j : Nat) (sd : SD), (ρ.set i .no)[j]? = some sd → (sd = .no ∧ j < ρ.length) ∨ ρ[j]? = some sd := fun j sd e => by
    by_cases c : i = j
    · subst c
      rw [List.getElem?_set] at e
      rw [if_pos rfl] at e
      split at e
      · cases e; rename_i hl; exact .inl ⟨rfl, hl⟩
      · cases e
    · rw [get_set_ne c] at e
      exact .inr e
  refine ⟨by rw [List.length_set]; exact s.len, fun j sd e => ?_, fun j l a b x e1 e2 h1 h2 => ?_, fun a z => s.far a ((own_cut h a).mp z), s.there, s.state, s.sin, s.off⟩
  · rcases back j sd e with ⟨rfl, hl⟩ | e
    · exact ⟨_, List.getElem?_eq_getElem (by rw [s.len]; exact hl), .no⟩
    · obtain ⟨o, e1, q⟩ := s.slot j sd e
      rw [av]
      exact ⟨o, e1, q⟩
  · rcases back j a e1 with ⟨rfl, _⟩ | e1
    · exact h1.elim
    · rcases back l b e2 with ⟨rfl, _⟩ | e2
      · exact h2.elim
      · exact s.inj j l a b x e1 e2 h1 h2
theorem re_cut {X : Cx} {E : XK} {e : Expr} {m : M D} {i : Nat} (h : RE X E e m) : RE X E e (cut i m) := PEimp h fun σ H Q ⟨O, st, ρ, S, s, g⟩ => by
  unfold cut at g
  by_cases c : notOwn ρ i = true
  · rw [if_pos c] at g
    refine ⟨O, st, _, S, s.cut c, ?_⟩
    have av : AV O st σ (ρ.set i .no) = AV O st σ ρ := funext fun a => propext (av_cut c a)
    cases em : m (ρ.set i .no) S with
    | ok d S' =>
      rw [em] at g
      exact fun v H' f q r => g v H' f q (by have r' : Rep X.K X.mg st H' (AV O st σ (ρ.set i .no)) v d := r; rw [av] at r'; exact r')
    | exc x S' => rw [em] at g; exact g
    | bad => rw [em] at g; exact g
  · rw [if_neg c] at g; exact g.elim
def lkOf (q : Str) (i : Nat) : List (Addr × Addr) → List (LamSp × M D) → Addr → Addr → Str → Option (M D)
  | p :: fs, z :: ms, f, c, q' => if p.1 = f ∧ p.2 = c ∧ q' = q then some (cut i z.2) else lkOf q i fs ms f c q'
  | _, _, _, _, _ => none
theorem lkOf_K {X : Cx} {new : List (Addr × Obj)} {k i : Nat} : ∀ {Z : List (LamSp × M D)} {fs : List (Addr × Addr)}, LamBs X k Z → AskP X new (Z.map (·.1)) fs → ∀ f c q m, lkOf (X.env.qual ++ "<lambda>") i fs Z f c q = some m → LamK X new k f c q m
  | [], [], _, _, f, c, q, m, e => by simp [lkOf] at e
  | z :: Z, p :: fs, .cons b r, ⟨h1, h2⟩, f, c, q, m, e => by
    unfold lkOf at e
    split at e
    · rename_i hc
      obtain ⟨e1, e2, e3⟩ := hc
      cases e
      obtain ⟨pm, ctv, hin⟩ := h1
      subst e1 e2 e3
      exact ⟨_, rfl, b.sc, ⟨pm, ctv, hin⟩, b.bind, fun B A out t G E f c' cl cx => re_cut (b.body B A out t G E f c' cl cx)⟩
    · exact lkOf_K r h2 f c q m e

/-! ### what is asked, without addresses -/
def askLoop (kr : Res D → Res D) (sm : List D → DS → Res D) (ρ : En) : List (LamSp × M D) → DS → Res (List D)
  | [], S => .ok [] S
  | (l, m) :: r, S => match kr (m ρ S) with
    | .ok d S1 => match sm [d, .str l.due] S1 with
      | .ok (.bl b) S2 => match askLoop kr sm ρ r S2 with
        | .ok ds S3 => .ok (if b = true then ds else .int 1 :: ds) S3
        | _ => .bad
      | _ => .bad
    | _ => .bad
def askOk (ρ : En) (i i1 i2 : Nat) : Bool := decide (i < ρ.length) && decide (i1 < ρ.length) && decide (i2 < ρ.length) && notOwn ρ i && notOwn ρ i1 && notOwn ρ i2
def askAll (kr : Res D → Res D) (sm : List D → DS → Res D) (i i1 i2 : Nat) (Z : List (LamSp × M D)) : MS := fun ρ S => if askOk ρ i i1 i2 = true then
    match askLoop kr sm (((wipeE ρ [i1, i2]).map hid).set i .no) Z S with
    | .ok ds S' => .rt (.bl ds.isEmpty) S'
    | _ => .bad
  else .bad
theorem ones_eq : ∀ n, n ≤ 60 → dEq (.lst (List.replicate n (.int 1))) (.lst []) = some (n == 0) := by
  have h : ((List.range 61).all fun n => decide (dEq (.lst (List.replicate n (.int 1))) (.lst []) = some (n == 0))) = true := by decide +kernel
  intro n hn
  have := List.all_eq_true.mp h n (List.mem_range.mpr (by omega))
  exact of_decide_eq_true this
theorem askLoop_ones {kr : Res D → Res D} {sm : List D → DS → Res D} {ρ : En} : ∀ {Z : List (LamSp × M D)} {S S' : DS} {ds : List D}, askLoop kr sm ρ Z S = .ok ds S' → ∃ n, n ≤ Z.length ∧ ds = List.replicate n (.int 1)
  | [], S, S', ds, e => by
    cases e
    exact ⟨0, Nat.le_refl _, rfl⟩
  | (l, m) :: r, S, S', ds, e => by
    unfold askLoop at e
    cases hk : kr (m ρ S) with
    | exc x S1 => rw [hk] at e; cases e
    | bad => rw [hk] at e; cases e
    | ok d S1 =>
    rw [hk] at e
    dsimp only at e
    split at e <;> try (cases e; done)
    rename_i b S2 h2
    cases h3 : askLoop kr sm ρ r S2 with
    | exc x S1 => rw [h3] at e; cases e
    | bad => rw [h3] at e; cases e
    | ok es S3 =>
    rw [h3] at e
    obtain ⟨n, hn, rfl⟩ := askLoop_ones h3
    cases e
    cases b with
    | true => exact ⟨n, by simp; omega, rfl⟩
    | false => exact ⟨n + 1, by simp; omega, rfl⟩
theorem notOwn_set {ρ : En} {i j : Nat} {sd : SD} (n : ¬ isOwn sd) (h : notOwn ρ j = true) : notOwn (ρ.set i sd) j = true := by
  by_cases c : i = j
  · subst c
    by_cases hl : i < ρ.length
    · unfold notOwn
      rw [List.getElem?_set, if_pos rfl, if_pos hl]
      cases sd <;> first | exact (n trivial).elim | rfl
    · unfold notOwn
      rw [List.getElem?_set, if_pos rfl, if_neg hl]
  · unfold notOwn at h ⊢
    rw [get_set_ne c]
    exact h
theorem notOwn_hid (ρ : En) (i : Nat) : notOwn (ρ.map hid) i = true := by
  unfold notOwn
  rw [List.getElem?_map]
  cases ρ[i]? with
  | none => rfl
  | some sd => cases sd <;> rfl
theorem hid_set (ρ : En) (i : Nat) (sd : SD) : (ρ.set i sd).map hid = (ρ.map hid).set i (hid sd) := by rw [List.map_set]
abbrev askG (i1 i2 : Nat) : GP := gpTup 2 (gpCons (gpName i1) (gpCons (gpName i2) gpNil))
abbrev askT (kr : Res D → Res D) (sm : List D → DS → Res D) (Lk : Addr → Addr → Str → Option (M D)) (i1 i2 : Nat) : M Bool := mNotT (bnd (mCall 2 (mCons (mKnd i1 [i1, i2] Lk kr) (mCons (mVar i2) (ret []))) sm) asB)
theorem lkOf_at {q : Str} {i : Nat} : ∀ (Z Z1 : List (LamSp × M D)) (fs fs1 : List (Addr × Addr)) (z : LamSp × M D) (p : Addr × Addr), Z1.length = fs1.length → ((fs1 ++ p :: fs).map (·.1)).Nodup → lkOf q i (fs1 ++ p :: fs) (Z1 ++ z :: Z) p.1 p.2 q = some (cut i z.2)
  | Z, [], fs, [], z, p, _, _ => by
    show (if p.1 = p.1 ∧ p.2 = p.2 ∧ q = q then some (cut i z.2) else _) = _
    rw [if_pos ⟨rfl, rfl, rfl⟩]
  | Z, y :: Z1, fs, r :: fs1, z, p, hl, nd => by
    rw [List.cons_append, List.map_cons, List.nodup_cons] at nd
    show (if r.1 = p.1 ∧ r.2 = p.2 ∧ q = q then some (cut i y.2) else lkOf q i (fs1 ++ p :: fs) (Z1 ++ z :: Z) p.1 p.2 q) = _
    rw [if_neg (fun h => nd.1 (by rw [h.1]; exact List.mem_map.mpr ⟨p, by simp, rfl⟩))]
    exact lkOf_at Z Z1 fs fs1 z p (by simpa using hl) nd.2
theorem ask_loop {kr : Res D → Res D} {sm : List D → DS → Res D} {q : Str} {i i1 i2 : Nat} {ρ : En} {ZZ : List (LamSp × M D)} {ff : List (Addr × Addr)} (hnd : (ff.map (·.1)).Nodup) (h12 : i1 ≠ i2) (hi1 : i ≠ i1) (hi2 : i ≠ i2) (l1 : i1 < ρ.length) (l2 : i2 < ρ.length) (n1 : notOwn ρ i1 = true) (n2 : notOwn ρ i2 = true) :
    ∀ (Z Z1 : List (LamSp × M D)) (fs fs1 : List (Addr × Addr)), Z1.length = fs1.length → Z.length = fs.length → ZZ = Z1 ++ Z → ff = fs1 ++ fs → ∀ S,
      lcLoop [i1, i2] (askG i1 i2) (askT kr sm (lkOf q i ff ZZ) i1 i2) (ret (.int 1)) (askD q (Z.map (·.1)) fs) ρ S = askLoop kr sm (((wipeE ρ [i1, i2]).map hid).set i .no) Z S
  | [], Z1, [], fs1, _, _, _, _, S => rfl
  | (l, m) :: Z, Z1, p :: fs, fs1, hl1, hl, eZ, ef, S => by
    have ew : wipeE ρ [i1, i2] = (ρ.set i2 .no).set i1 .no := rfl
    have nw1 : notOwn (wipeE ρ [i1, i2]) i1 = true := notOwn_wipe n1 _
    have nw2 : notOwn (wipeE ρ [i1, i2]) i2 = true := notOwn_wipe n2 _
    have hg : askG i1 i2 (.tup [.lam p.1 p.2 q, .str l.due]) (wipeE ρ [i1, i2]) = some (((wipeE ρ [i1, i2]).set i1 (.val (.lam p.1 p.2 q))).set i2 (.val (.str l.due))) := by
      show (if notOwn (wipeE ρ [i1, i2]) i1 = true then some ((wipeE ρ [i1, i2]).set i1 (.val (.lam p.1 p.2 q))) else none).bind (fun r => (if notOwn r i2 = true then some (r.set i2 (.val (.str l.due))) else none).bind some) = _
      rw [if_pos nw1, Option.bind_some, if_pos (notOwn_set (sd := .val (.lam p.1 p.2 q)) (fun z => z) nw2)]
      rfl
    have lw : (wipeE ρ [i1, i2]).length = ρ.length := by rw [ew, List.length_set, List.length_set]
    generalize hρ : wipeE ρ [i1, i2] = ρw at *
    have g1 : ((ρw.set i1 (.val (.lam p.1 p.2 q))).set i2 (.val (.str l.due)))[i1]? = some (.val (.lam p.1 p.2 q)) := by
      rw [get_set_ne (Ne.symm h12), List.getElem?_set, if_pos rfl, if_pos (by rw [lw]; exact l1)]
    have g2 : ((ρw.set i1 (.val (.lam p.1 p.2 q))).set i2 (.val (.str l.due)))[i2]? = some (.val (.str l.due)) := by
      rw [List.getElem?_set, if_pos rfl, if_pos (by rw [List.length_set, lw]; exact l2)]
    have wb : wipeE ((ρw.set i1 (.val (.lam p.1 p.2 q))).set i2 (.val (.str l.due))) [i1, i2] = ρw := by
      show (((ρw.set i1 (.val (.lam p.1 p.2 q))).set i2 (.val (.str l.due))).set i2 .no).set i1 .no = ρw
      rw [List.set_set, List.set_comm _ _ h12, List.set_set, ew, List.set_comm _ _ h12, List.set_set, List.set_set]
    have na : [i1, i2].all (notOwn ((ρw.set i1 (.val (.lam p.1 p.2 q))).set i2 (.val (.str l.due)))) = true := by
      simp only [List.all_cons, List.all_nil, Bool.and_true, Bool.and_eq_true]
      exact ⟨notOwn_set (sd := .val (.str l.due)) (fun z => z) (notOwn_set (sd := .val (.lam p.1 p.2 q)) (fun z => z) nw1), notOwn_set (sd := .val (.str l.due)) (fun z => z) (notOwn_set (sd := .val (.lam p.1 p.2 q)) (fun z => z) nw2)⟩
    generalize hρ1 : (ρw.set i1 (.val (.lam p.1 p.2 q))).set i2 (.val (.str l.due)) = ρ1 at *
    have elk : lkOf q i ff ZZ p.1 p.2 q = some (cut i m) := by
      rw [ef, eZ]
      exact lkOf_at Z Z1 fs fs1 (l, m) p hl1 (by rw [← ef]; exact hnd)
    have ek : mKnd i1 [i1, i2] (lkOf q i ff ZZ) kr ρ1 S = kr (m ((ρw.map hid).set i .no) S) := by
      unfold mKnd
      rw [g1]
      dsimp only
      rw [elk]
      dsimp only
      rw [if_pos na, wb]
      show kr (if notOwn (ρw.map hid) i = true then m ((ρw.map hid).set i .no) S else .bad) = _
      rw [if_pos (notOwn_hid _ _)]
    have ih := ask_loop (kr := kr) (sm := sm) (q := q) (ZZ := ZZ) (ff := ff) hnd h12 hi1 hi2 l1 l2 n1 n2 Z (Z1 ++ [(l, m)]) fs (fs1 ++ [p]) (by simp [hl1]) (by simpa using hl) (by rw [eZ]; simp) (by rw [ef]; simp)
    rw [hρ] at ih
    have et : askT kr sm (lkOf q i ff ZZ) i1 i2 ρ1 S = match kr (m ((ρw.map hid).set i .no) S) with
        | .ok d S1 => (match sm [d, .str l.due] S1 with
          | .ok (.bl b) S2 => .ok (!b) S2
          | .ok _ _ => .bad
          | .exc x S2 => .exc x S2
          | .bad => .bad)
        | .exc x S1 => .exc x S1
        | .bad => .bad := by
      unfold askT mNotT mCall mCons
      unfold bnd
      rw [ek]
      cases hk : kr (m ((ρw.map hid).set i .no) S) with
      | exc x S1 => rfl
      | bad => rfl
      | ok d S1 =>
      have e2 : mVar i2 ρ1 S1 = .ok (.str l.due) S1 := by
        unfold mVar
        rw [g2]
      dsimp only [bnd, ret]
      rw [e2]
      dsimp only [bnd, ret]
      rw [if_pos (show [d, D.str l.due].length = 2 from rfl)]
      cases hs : sm [d, .str l.due] S1 with
      | exc x S2 => rfl
      | bad => rfl
      | ok b S2 => cases b <;> rfl
    show lcLoop [i1, i2] (askG i1 i2) (askT kr sm (lkOf q i ff ZZ) i1 i2) (ret (.int 1)) (.tup [.lam p.1 p.2 q, .str l.due] :: askD q (Z.map (·.1)) fs) ρ S = _
    unfold lcLoop askLoop
    rw [hρ, hg]
    dsimp only
    rw [et]
    cases hk : kr (m ((ρw.map hid).set i .no) S) with
    | exc x S1 => rfl
    | bad => rfl
    | ok d S1 =>
    dsimp only
    cases hs : sm [d, .str l.due] S1 with
    | exc x S2 => rfl
    | bad => rfl
    | ok b S2 =>
    cases b <;> try rfl
    rename_i b
    dsimp only
    have ih2 := ih S2
    cases b with
    | true => 
      show lcLoop [i1, i2] (askG i1 i2) (askT kr sm (lkOf q i ff ZZ) i1 i2) (ret (.int 1)) (askD q (Z.map (·.1)) fs) ρ S2 = _
      rw [ih2]
      generalize hz : askLoop kr sm ((ρw.map hid).set i .no) Z S2 = z
      cases z with
      | ok a b => rfl
      | exc x b =>
        have := lcLoop_noexc (vs := [i1, i2]) (g := askG i1 i2) (tt := askT kr sm (lkOf q i ff ZZ) i1 i2) (te := ret (.int 1)) (ρ := ρ) (x := x) (S' := b) (askD q (Z.map (·.1)) fs) S2
        rw [ih2, hz] at this
        exact absurd rfl this
      | bad => rfl
    | false =>
      show (match lcLoop [i1, i2] (askG i1 i2) (askT kr sm (lkOf q i ff ZZ) i1 i2) (ret (.int 1)) (askD q (Z.map (·.1)) fs) ρ S2 with | .ok ds S3 => Res.ok (D.int 1 :: ds) S3 | _ => .bad) = _
      rw [ih2]
      cases askLoop kr sm ((ρw.map hid).set i .no) Z S2 <;> rfl
theorem bnd_ok {α β : Type} {m : M α} {f : α → M β} {ρ : En} {S S' : DS} {a : α} (h : m ρ S = .ok a S') : bnd m f ρ S = f a ρ S' := by
  unfold bnd
  rw [h]
theorem sE_ok {α : Type} {m : M α} {f : α → MS} {ρ : En} {S S' : DS} {a : α} (h : m ρ S = .ok a S') : sE m f ρ S = f a ρ S' := by
  unfold sE
  rw [h]
theorem wipeE_set {ρ : En} {i i1 i2 : Nat} {sd : SD} (h1 : i ≠ i1) (h2 : i ≠ i2) : wipeE (ρ.set i sd) [i1, i2] = (wipeE ρ [i1, i2]).set i sd := by
  show ((ρ.set i sd).set i2 .no).set i1 .no = ((ρ.set i2 .no).set i1 .no).set i sd
  rw [List.set_comm _ _ h2, List.set_comm _ _ h1]
section
variable {X : Cx} {E : XK} {P : Addr} {i i1 i2 k j jj kk : Nat} {x ask due same kind : Str} {Z : List (LamSp × M D)} {kr : Res D → Res D} {sm : List D → DS → Res D} {st : Stmt} {ps : List Str} {es : List Expr} {sc : Scope}
  {p1 p2 p3 q1 q2 q3 q4 q5 q6 q7 q8 q9 r1 r2 r3 r4 r5 r6 r7 : Pos}
/-- x = [(lambda: .., 'n'), ..]; return [1 for ask, due in x if not same(kind(ask), due)] == [] -/
theorem rss_askRet (Mk : LamMk X P) (c : Ctx X E (k + 3)) (hZ : LamBs X k Z) (hes : es = (Z.map (·.1)).map LamSp.e) (hz : Z.length ≤ 60) (nd : X.N.Nodup) (hi : X.N[i]? = some x) (hx : X.env.scope.names.lookup x = some .local)
    (T : KndT X.prog X.w X.K X.mg kind (k + 1) kr) (Ds : Df X.prog X.w X.K X.mg X.base j same ps sm st) (hps : ps.length = 2) (hj : j ≤ k + 3) (h12 : i1 ≠ i2) (hi1 : i ≠ i1) (hi2 : i ≠ i2)
    (hxv : ∀ ns, PE (wp X ns) (.Name x q5) (tVar i)) (ok : BlkOk X.N X.env.scope sc [(ask, i1), (due, i2)])
    (hg : ∀ (ns : List (Addr × Obj)) (s : Shared) (H : Hp) (fp : List Addr), RC (bCx (wp X ns) sc s H fp) [i1, i2] (.Tuple [.Name ask q2, .Name due q3] kk q4) (askG i1 i2))
    (hd : ∀ (ns : List (Addr × Obj)) (s : Shared) (H : Hp) (fp : List Addr), PE (bCx (wp X ns) sc s H fp) (.Name due r1) (tVar i2))
    (hask : X.N[i1]? = some ask) (hvis : ∀ (ns : List (Addr × Obj)) (s : Shared) (H : Hp) (fp : List Addr), Vis (bCx (wp X ns) sc s H fp).env.scope ask)
    (hgk : ∀ (ns : List (Addr × Obj)) (s : Shared) (H : Hp) (fp : List Addr), Gl (bCx (wp X ns) sc s H fp) kind) (hgs : ∀ (ns : List (Addr × Obj)) (s : Shared) (H : Hp) (fp : List Addr), Gl (bCx (wp X ns) sc s H fp) same)
    (hd1 : (kind == ("__debug__" : Str)) = false := by decide) (hd2 : (ask == ("__debug__" : Str)) = false := by decide) (hd3 : (ask == ("__classdict__" : Str)) = false := by decide) (hd4 : (same == ("__debug__" : Str)) = false := by decide)
    (hsw : swapsWith (.List es p2) (some (.Name x p1)) p3.line X.env = pure false := by rfl) :
    RSs X E [.Assign [.Name x p1] (.List es p2) p3, .Return (some (.Compare (.ListComp (.Constant (.int 1) jj q1) [⟨.Tuple [.Name ask q2, .Name due q3] kk q4, .Name x q5, [.UnaryOp .Not (.Call (.Name same q6) [.Call (.Name kind q7) [.Name ask q8] [] q9, .Name due r1] [] r2) r3], 0⟩] sc r4) [.Eq] [.List [] r5] r6)) r7]
      (askAll kr sm i i1 i2 Z) := by
  subst hes
  have hb := hZ.mem
  refine rss_asked (mr := fun fs => sE (bn2 (bnd (mLc (bnd (mVar i) asL) [i1, i2] (askG i1 i2) (askT kr sm (lkOf (X.env.qual ++ "<lambda>") i fs Z) i1 i2) (ret (.int 1))) fun ds => ret (.lst ds)) (mLst (ret [])) fun x y => lft (mB (dEq x y))) sRt)
    Mk (fun l hl => ?_) (by rw [List.length_map]; exact Nat.le_trans hz (by decide)) nd hi hx (fun fs ns ap hnd => ?_) (fun fs ρ S hfs hnd hil hne => ?_) hsw
  · obtain ⟨p, hp, e⟩ := List.mem_map.mp hl
    rw [← e]
    exact ⟨(hb p hp).dflt, (hb p hp).sc⟩
  · have cw : Ctx (wp X ns) E (k + 3) := c.wp
    refine rss_one (rs_ret (re_cmp (c_eq cw.u64) (RE.q (rn_re (rn_lcK (own := [(ask, i1), (due, i2)]) cw.calm nd (ri_c (RE.q (re_var (hxv ns)))) ok (hg ns) (fun pins σ s H fp I hfp => ?_) fun s H fp => re_int))) (RE.q (re_lst ra_nil)) rfl))
    have cb : Ctx (bCx (wp X ns) sc s H fp) EN (k + 3) := Ctx.blk cw
    have Ds' : Df (bCx (wp X ns) sc s H fp).prog (bCx (wp X ns) sc s H fp).w (bCx (wp X ns) sc s H fp).K (bCx (wp X ns) sc s H fp).mg (bCx (wp X ns) sc s H fp).base j same ps sm st := Ds
    have main := rec_call (p1 := q6) (pos := r2) Ds' cb hj (hgs ns s H fp) (rac_cons (pe_kind (p1 := q7) (p2 := q8) (pos := q9) (vs := [i1, i2]) T I hfp cb (lkOf_K (i := i) hZ ap) (hgk ns s H fp) hask (hvis ns s H fp) hd1 hd2 hd3) (ra_cons (re_var (hd ns s H fp)) ra_nil)) hd4
    rw [hps] at main
    exact pts_one (rtc_not (rtc_val main))
  · unfold askAll at hne ⊢
    by_cases ha : askOk ρ i i1 i2 = true
    case neg => rw [if_neg ha] at hne; exact absurd rfl hne
    rw [if_pos ha] at hne ⊢
    unfold askOk at ha
    simp only [Bool.and_eq_true, decide_eq_true_eq] at ha
    obtain ⟨⟨⟨⟨⟨a1, a2⟩, a3⟩, a4⟩, a5⟩, a6⟩ := ha
    rw [List.length_map] at hfs
    have nv : ∀ d : D, ¬ isOwn (.val d) := fun d z => z
    generalize hq : X.env.qual ++ "<lambda>" = q at *
    generalize hv : SD.val (.lst (askD q (Z.map (·.1)) fs)) = sv at *
    have nsv : ¬ isOwn sv := by rw [← hv]; exact fun z => z
    have loop := ask_loop (kr := kr) (sm := sm) (q := q) (i := i) (ρ := ρ.set i sv) (ZZ := Z) (ff := fs) hnd h12 hi1 hi2 (by rw [List.length_set]; exact a2) (by rw [List.length_set]; exact a3) (notOwn_set nsv a5) (notOwn_set nsv a6) Z [] fs [] rfl (by rw [hfs]) rfl rfl S
    rw [wipeE_set hi1 hi2, hid_set, List.set_set] at loop
    have ev : bnd (mVar i) asL (ρ.set i sv) S = .ok (askD q (Z.map (·.1)) fs) S := by
      unfold bnd mVar
      rw [List.getElem?_set, if_pos rfl, if_pos hil, ← hv]
      rfl
    have hall : [i1, i2].all (notOwn (ρ.set i sv)) = true := by
      simp only [List.all_cons, List.all_nil, Bool.and_true, Bool.and_eq_true]
      exact ⟨notOwn_set nsv a5, notOwn_set nsv a6⟩
    have hlen : ∀ (Ls : List LamSp) (fs : List (Addr × Addr)), (askD q Ls fs).length ≤ Ls.length := fun Ls => by
      induction Ls with
      | nil => intro fs; cases fs <;> exact Nat.le_refl _
      | cons l Ls ih =>
        intro fs
        cases fs with
        | nil => exact Nat.zero_le _
        | cons p fs => exact Nat.succ_le_succ (ih fs)
    have elc : mLc (bnd (mVar i) asL) [i1, i2] (askG i1 i2) (askT kr sm (lkOf q i fs Z) i1 i2) (ret (.int 1)) (ρ.set i sv) S = askLoop kr sm (((wipeE ρ [i1, i2]).map hid).set i .no) Z S := by
      unfold mLc
      rw [bnd_ok ev]
      rw [if_pos ⟨Nat.le_trans (hlen _ _) (by rw [List.length_map]; omega), hall⟩]
      exact loop
    cases hr : askLoop kr sm (((wipeE ρ [i1, i2]).map hid).set i .no) Z S with
    | exc x S1 => rw [hr] at hne; exact absurd rfl hne
    | bad => rw [hr] at hne; exact absurd rfl hne
    | ok ds S1 =>
    obtain ⟨n, hn, rfl⟩ := askLoop_ones hr
    rw [hr] at elc
    have e1 : bnd (mLc (bnd (mVar i) asL) [i1, i2] (askG i1 i2) (askT kr sm (lkOf q i fs Z) i1 i2) (ret (.int 1))) (fun ds => ret (D.lst ds)) (ρ.set i sv) S = .ok (D.lst (List.replicate n (.int 1))) S1 := bnd_ok elc
    have e2 : mLst (ret []) (ρ.set i sv) S1 = .ok (D.lst []) S1 := rfl
    have e3 : bn2 (bnd (mLc (bnd (mVar i) asL) [i1, i2] (askG i1 i2) (askT kr sm (lkOf q i fs Z) i1 i2) (ret (.int 1))) fun ds => ret (D.lst ds)) (mLst (ret [])) (fun x y => lft (mB (dEq x y))) (ρ.set i sv) S = .ok (D.bl (n == 0)) S1 := by
      unfold bn2
      rw [bnd_ok e1, bnd_ok e2]
      dsimp only
      rw [ones_eq n (by omega)]
      rfl
    rw [sE_ok e3]
    show RS.rt (.bl (n == 0)) S1 = .rt (.bl (List.replicate n (D.int 1)).isEmpty) S1
    cases n <;> rfl
end
end Pf
end

section
set_option Elab.async false
set_option linter.all false
set_option maxRecDepth 100000
namespace Pf
open PySem PySem.Spec PyProof.Rows L2
variable [TabsC]

/-! ### the state of the draws, read and written -/
inductive StK where
  | rest | turn
def StK.nm : StK → Str
  | .rest => "rest"
  | .turn => "turn"
def StK.get : StK → DS → Int
  | .rest, S => S.rest
  | .turn, S => S.turn
def StK.put : StK → DS → Int → DS
  | .rest, S, z => { S with rest := z }
  | .turn, S, z => { S with turn := z }
def drKv (g c : Addr) (S : DS) : List (Key × V) := [(Sum.inr "great", .ref g), (Sum.inr "cells", .ref c), (Sum.inr "rest", .int S.rest), (Sum.inr "turn", .int S.turn)]
theorem nk {x y : Str} (h : x ≠ y) {v : V} : ¬ ((Sum.inr x, v) : Key × V).1 = Sum.inr y := fun z => h (Sum.inr.inj z)
theorem dr_get (k : StK) (g c : Addr) (S : DS) : valV (drKv g c S) (Sum.inr k.nm) = some (.int (k.get S)) := by
  cases k
  · exact (valV_neg (nk (by decide))).trans ((valV_neg (nk (by decide))).trans (valV_pos rfl))
  · exact (valV_neg (nk (by decide))).trans ((valV_neg (nk (by decide))).trans ((valV_neg (nk (by decide))).trans (valV_pos rfl)))
theorem dr_great (g c : Addr) (S : DS) : valV (drKv g c S) (Sum.inr "great") = some (.ref g) := valV_pos rfl
theorem dr_cells (g c : Addr) (S : DS) : valV (drKv g c S) (Sum.inr "cells") = some (.ref c) := (valV_neg (nk (by decide))).trans (valV_pos rfl)
theorem dr_put (k : StK) (g c : Addr) (S : DS) (z : Int) : putK (drKv g c S) (Sum.inr k.nm) (.int z) = drKv g c (k.put S z) := by
  cases k <;> rfl
variable {K : PySem.W.Frag} {mg : Str → Option Value} {O : Addr → Prop} {st : StA} {σ : L2.St} {ρ : En} {S : DS} {H : Hp} {i : Nat}
/-- where the state stands -/
theorem Sim.dr (s : Sim K mg O st σ H ρ S) (e : ρ[i]? = some (.val .drw)) : ∃ a g c, st.dr = some (a, g, c) ∧ σ[i]? = some (some (.ref a)) ∧ H a = some (.dK (drKv g c S)) ∧ H g = some (.lst (S.great.map V.int)) ∧ H c = some (.lst (S.cells.map V.int)) := by
  obtain ⟨o, h1, h2⟩ := s.slot i _ e
  cases h2 with
  | val r =>
    cases r with
    | drw hd =>
      have q := s.state.dr
      rw [hd] at q
      exact ⟨_, _, _, hd, h1, q⟩
theorem StOk.chg {a g c : Addr} {S' : DS} {p : Addr} {o : HO} (q : StOk st H S) (hd : st.dr = some (a, g, c)) (hp : p = a ∨ p = g) (hH : ∃ o, H p = some o ∧ (∀ φ, o ≠ .ext φ) ∧ ∀ ps, o ≠ .tbl ps)
    (h1 : upd H p o a = some (.dK (drKv g c S'))) (h2 : upd H p o g = some (.lst (S'.great.map V.int))) (h3 : upd H p o c = some (.lst (S'.cells.map V.int))) : FrE st H (upd H p o) ∧ StOk st (upd H p o) S' := by
  have inA : stA st p := by
    refine .inl ?_
    rw [hd]
    rcases hp with h | h
    · exact .inl h
    · exact .inr (.inl h)
  obtain ⟨u, e, n1, n2⟩ := hH
  refine ⟨fun b ob eb nb => ?_, ?_, fun t ht => ?_⟩
  · rw [upd_ne (by rintro rfl; exact nb inA)]
    exact eb
  · rw [hd]
    exact ⟨h1, h2, h3⟩
  · obtain ⟨ps, g1, g2, g3⟩ := q.tb t ht
    refine ⟨ps, ?_, g2, fun pos cv hc => ?_⟩
    · rw [upd_ne (by rintro z; rw [z, e] at g1; cases g1; exact n2 _ rfl)]
      exact g1
    · obtain ⟨cc, e1, e2⟩ := g3 pos cv hc
      refine ⟨cc, e1, ?_⟩
      rw [upd_ne (by rintro z; rw [z, e] at e2; cases e2; exact n1 _ rfl)]
      exact e2
theorem Sim.drPut (s : Sim K mg O st σ H ρ S) {a g c : Addr} (hd : st.dr = some (a, g, c)) (k : StK) (z : Int) : FrE st H (upd H a (.dK (drKv g c (k.put S z)))) ∧ StOk st (upd H a (.dK (drKv g c (k.put S z)))) (k.put S z) := by
  have q := s.state.dr
  rw [hd] at q
  obtain ⟨h1, h2, h3⟩ := q
  have ng : g ≠ a := by rintro rfl; rw [h1] at h2; cases h2
  have nc : c ≠ a := by rintro rfl; rw [h1] at h3; cases h3
  exact s.state.chg hd (.inl rfl) ⟨_, h1, (fun φ z => by cases z), fun ps z => by cases z⟩ upd_same (by rw [upd_ne ng, h2]; cases k <;> rfl) (by rw [upd_ne nc, h3]; cases k <;> rfl)
theorem Sim.drPop (s : Sim K mg O st σ H ρ S) {a g c : Addr} (hd : st.dr = some (a, g, c)) (l : List Int) : FrE st H (upd H g (.lst (l.map V.int))) ∧ StOk st (upd H g (.lst (l.map V.int))) { S with great := l } := by
  have q := s.state.dr
  rw [hd] at q
  obtain ⟨h1, h2, h3⟩ := q
  have ng : a ≠ g := by rintro rfl; rw [h1] at h2; cases h2
  exact s.state.chg hd (.inr rfl) ⟨_, h2, (fun φ z => by cases z), fun ps z => by cases z⟩ (by rw [upd_ne ng, h1]; rfl) upd_same (by rw [upd_ne (Ne.symm (st.ne _ _ _ hd))]; exact h3)
end Pf
end

section
set_option Elab.async false
set_option linter.all false
set_option maxRecDepth 100000
namespace Pf
open PySem PySem.Spec PyProof.Rows L2
variable [TabsC]

def mSt (k : StK) (i : Nat) : M D := fun ρ S => match ρ[i]? with
  | some (.val .drw) => .ok (.int (k.get S)) S
  | _ => .bad
def mGreatNe (i : Nat) : M Bool := fun ρ S => match ρ[i]? with
  | some (.val .drw) => .ok (!S.great.isEmpty) S
  | _ => .bad
def mGreatPop (i : Nat) : M D := fun ρ S => match ρ[i]? with
  | some (.val .drw) => match S.great with
    | z :: l => .ok (.int z) { S with great := l }
    | [] => .bad
  | _ => .bad
/-- state["rest"] = e -/
def sPutSt (k : StK) (i : Nat) (m : M D) : MS := sE m fun d ρ S => match ρ[i]?, d with
  | some (.val .drw), .int z => .nx ρ (k.put S z)
  | _, _ => .bad
section
variable {X : Cx} {E : XK} {d e a b tg : Expr} {sts : List Stmt} {m : M D} {pos p1 p2 p3 p4 p5 p6 : Pos} {i j jj : Nat} {vs : List Nat} {g : GP} {mb : MS} {x : Str}
theorem re_st (k : StK) (hu : X.A.units + 1 < cLine) (hv : PE X d (tVar i)) (hx : x = k.nm) : RE X E (.Subscript d (.Constant (.str x) j p2) pos) (mSt k i) := by
  subst hx
  refine PEimp (pe_dget hu hv pe_str (fun _ _ => rfl)) fun σ H Q ⟨O, st, ρ, S, s, gd⟩ => ?_
  unfold mSt at gd
  split at gd
  case h_2 => exact gd.elim
  rename_i e
  obtain ⟨a, g, c, hd, h1, h2, h3, h4⟩ := s.dr e
  refine ⟨_, h1, a, .int (k.get S), rfl, ?_, gd _ _ FrE.refl s.state (.int _)⟩
  have z := DGet.k (k := Sum.inr k.nm) h2
  rw [dr_get k g c S] at z
  exact z
theorem rs_putSt (k : StK) (hu : X.A.units + 1 < cLine) (hv : PE X d (tVar i)) (hx : x = k.nm) (he : RE X E e m) (hs : swapsWith e (some (.Subscript d (.Constant (.str x) j p2) p3)) pos.line X.env = pure false := by rfl) :
    RS1 X E (.Assign [.Subscript d (.Constant (.str x) j p2) p3] e pos) (sPutSt k i m) := by
  subst hx
  refine PSimp (ps_dput hu hv pe_str he hs) fun D σ H h => tG_mono (tS_sE h) fun v H1 ⟨O, st, ρ, S, dv, s, r, gd⟩ => ?_
  dsimp only at gd
  split at gd
  case h_2 => exact gd.elim
  rename_i z e
  cases r
  obtain ⟨a, g, c, hd, h1, h2, h3, h4⟩ := s.dr e
  have q := DPut.k (k := Sum.inr k.nm) (v := V.int z) h2 (show (4 : Nat) < sizeLine by decide)
  rw [dr_put] at q
  obtain ⟨f, q2⟩ := s.drPut hd k z
  exact ⟨_, h1, a, _, rfl, q, gd _ _ (s.ext f q2) f.fs⟩
theorem great_shaped (l : List Int) : SeqAt.shaped (.list (l.map PyData.int)) = true := by
  have h1 : ∀ l : List Int, PyData.canLayAll0 (l.map PyData.int) = true := fun l => by
    induction l with
    | nil => rfl
    | cons z l ih => simp only [List.map_cons, PyData.canLayAll0, PyData.canLay0, ih, Bool.and_self]
  have h2 : ∀ l : List Int, PyData.depthAll (l.map PyData.int) = 0 := fun l => by
    induction l with
    | nil => rfl
    | cons z l ih => simp only [List.map_cons, PyData.depthAll, PyData.depth, ih, Nat.max_self]
  unfold SeqAt.shaped
  simp only [PyData.canLay0, h1, PyData.depth, h2, Bool.true_and, decide_eq_true_eq]
  omega
theorem dpAll_ints {K : PySem.W.Frag} {H : Hp} : ∀ l : List Int, DpAll K H (l.map V.int) (l.map PyData.int)
  | [] => .nil
  | z :: l => .cons (.int z) (dpAll_ints l)
theorem rt_greatNe (hu : X.A.units + 64 < cLine) (hv : PE X d (tVar i)) : RT X E (.Compare (.Subscript d (.Constant (.str "great") j p2) p3) [.NotEq] [.List [] p4] pos) (mGreatNe i) := by
  refine PTimp (pt_cmpR (op_neD hu) (pe_dget (Nat.lt_of_le_of_lt (by omega) hu) hv pe_str (fun _ _ => rfl)) (pe_lst pa_nil) rfl) fun σ H Q ⟨O, st, ρ, S, s, gd⟩ => ?_
  unfold mGreatNe at gd
  split at gd
  case h_2 => exact gd.elim
  rename_i e
  obtain ⟨a, g, c, hd, h1, h2, h3, h4⟩ := s.dr e
  have z := DGet.k (k := Sum.inr ("great" : Str)) h2
  rw [dr_great g c S] at z
  refine ⟨_, h1, a, _, rfl, z, ?_, fun p np => ?_⟩
  · show 0 ≤ sizeLine
    exact Nat.zero_le _
  have f : FrE st H (upd H p (.lst [])) := FrE.laid np
  have ngp : g ≠ p := ne_of_none h3 np
  refine ⟨.list (S.great.map PyData.int), .list [], .lst (SqL.of (by rw [upd_ne ngp]; exact h3)) (dpAll_ints _), .lst (SqL.of upd_same) .nil, great_shaped _, by decide, ?_⟩
  refine ⟨_, rfl, ?_⟩
  have ev : (!PyData.eqv (.list (S.great.map PyData.int)) (.list [])) = !S.great.isEmpty := by
    cases S.great <;> rfl
  rw [ev]
  exact gd _ _ f (s.state.laid np) rfl
theorem six0 (l : List Int) : seqIndex? 0 ((l.map V.int).length + 1) = some 0 := by
  unfold seqIndex?
  have h : (0 : Int) < ((((l.map V.int).length + 1 : Nat)) : Int) := by omega
  simp [h]
theorem re_greatPop (hu : X.A.units + 1 < cLine) (hv : PE X d (tVar i)) (hbase : attributeBase (.Subscript d (.Constant (.str "great") j p2) p3) "pop" X.env (eval (.Subscript d (.Constant (.str "great") j p2) p3) X.env) = eval (.Subscript d (.Constant (.str "great") j p2) p3) X.env := by rfl)
    (hline : (p4.endLine == pos.line) = true := by rfl) : RE X E (.Call (.Attribute (.Subscript d (.Constant (.str "great") j p2) p3) "pop" p4) [.Constant (.int 0) jj p5] [] pos) (mGreatPop i) := by
  refine PEimp (pe_bm PySem.F.plainAttrs_list PySem.F.slot_list_pop PySem.F.type_list_pop mt_popAt (pe_dget hu hv pe_str (fun _ _ => rfl)) (pa_cons pe_int pa_nil) (hbase := hbase) (hline := hline)) fun σ H Q ⟨O, st, ρ, S, s, gd⟩ => ?_
  unfold mGreatPop at gd
  split at gd
  case h_2 => exact gd.elim
  rename_i e
  obtain ⟨a, g, c, hd, h1, h2, h3, h4⟩ := s.dr e
  have z := DGet.k (k := Sum.inr ("great" : Str)) h2
  rw [dr_great g c S] at z
  split at gd
  case h_2 => exact gd.elim
  rename_i z0 l eg
  rw [eg] at h3
  refine ⟨_, h1, a, _, rfl, z, Or.inl ⟨rfl, _, SqL.of h3⟩, ?_⟩
  obtain ⟨f, q⟩ := s.drPop hd l
  exact ⟨g, _, 0, 0, .int z0, rfl, rfl, h3, by decide, by decide, six0 l, rfl, gd _ _ f q (.int _)⟩
/-! for cell in state["cells"] -/
def forC (g : GP) (body : MS) : Nat → Nat → MS
  | 0, _, _, _ => .bad
  | n + 1, k, ρ, S => match S.cells[k]? with
    | none => .nx ρ S
    | some z => match g (.int z) ρ with
      | none => .bad
      | some ρ1 => match body ρ1 S with
        | .nx ρ' S' => forC g body n (k + 1) ρ' S'
        | .ct ρ' S' => forC g body n (k + 1) ρ' S'
        | .bk ρ' S' => .nx ρ' S'
        | .rt d S' => .rt d S'
        | .exc x S' => .exc x S'
        | .bad => .bad
def sForC (i n : Nat) (g : GP) (body : MS) : MS := fun ρ S => match ρ[i]? with
  | some (.val .drw) => forC g body n 0 ρ S
  | _ => .bad
theorem rs_forC (n : Nat) (hp : PassesOwn (model X.prog X.w) X.A X.env X.xe) (hc : X.calm = true) (hu : X.A.units + 1 < cLine) (hv : PE X d (tVar i)) (hg : RC X vs tg g) (hb : RSs X E sts mb) :
    RS1 X E (.For tg (.Subscript d (.Constant (.str "cells") j p2) p3) sts [] pos) (sForC i n g mb) := by
  refine PSimp (ps_for hp hc (pi_seq (pe_dget hu hv pe_str (fun _ _ => rfl))) hg hb (by intro _; rfl)) fun D σ H ⟨O, st, ρ, S, s0, g0⟩ => ?_
  unfold sForC at g0
  split at g0
  case h_2 => exact g0.elim
  rename_i e
  obtain ⟨a, gg, c, hd, h1, h2, h3, h4⟩ := s0.dr e
  have z := DGet.k (k := Sum.inr ("cells" : Str)) h2
  rw [dr_cells gg c S] at z
  refine ⟨_, h1, a, _, rfl, z, c, rfl, .inl ⟨⟨_, SqL.of h4⟩, ?_⟩⟩
  have cellsAt : ∀ {σ2 : L2.St} {ρ2 : En} {S2 : DS} {H2 : Hp}, Sim X.K X.mg O st σ2 H2 ρ2 S2 → SqL X.K H2 c (S2.cells.map V.int) := fun s => by
    have q := s.state.dr
    rw [hd] at q
    exact SqL.of q.2.2
  refine ⟨fun k m σ2 H2 => m < n + 1 ∧ ∃ ρ2 S2, Sim X.K X.mg O st σ2 H2 ρ2 S2 ∧ FrS st σ ρ H σ2 ρ2 H2 ∧ GoodS X.K X.mg E O st σ2 ρ2 H2 (forC g mb m k ρ2 S2) D, ⟨n, Nat.lt_succ_self n, ρ, S, s0, FrS.refl, g0⟩, ?_⟩
  rintro k m σ2 H2 ⟨hm, ρ2, S2, s2, f2, g2⟩
  cases m with
  | zero => exact g2.elim
  | succ m =>
  have sq := cellsAt s2
  unfold forC at g2
  cases ec : S2.cells[k]? with
  | none =>
    rw [ec] at g2
    have hk : S2.cells.length ≤ k := List.getElem?_eq_none_iff.mp ec
    exact .inl ⟨⟨_, sq, by rw [List.length_map]; exact hk⟩, g2 _ _ s2 FrS.refl⟩
  | some zc =>
    rw [ec] at g2
    have hk : k < S2.cells.length := (List.getElem?_eq_some_iff.mp ec).1
    refine .inr ⟨?_, fun σ3 H3 => ∃ ρ3 S3, Sim X.K X.mg O st σ3 H3 ρ3 S3 ∧ FrS st σ ρ H σ3 ρ3 H3 ∧ GoodS X.K X.mg E O st σ3 ρ3 H3 (forC g mb m (k + 1) ρ3 S3) D, fun σ' H' q => ⟨m, by omega, by omega, q⟩, fun x H3 y => ?_⟩
    · exact walk_list.goes k H2 (by rw [List.length_map]; exact hk) sq
    obtain ⟨eH, ex⟩ := walk_list.yields k H2 x H3 (by rw [List.length_map]; exact hk) sq y
    subst eH
    rw [List.getElem?_map, ec] at ex
    obtain rfl : V.int zc = x := Option.some.inj ex
    dsimp only at g2
    refine ⟨O, st, ρ2, S2, _, s2, .int zc, ?_⟩
    cases eg : g (.int zc) ρ2 with
    | none => rw [eg] at g2; exact g2.elim
    | some ρ3 =>
      rw [eg] at g2
      refine ⟨ρ3, rfl, fun σ4 s4 ow4 _ => ?_⟩
      have f4 : FrS st σ2 ρ2 H3 σ4 ρ3 H3 := ⟨fun _ _ h _ _ => h, fun a q => .inl ((ow4 a).mp q)⟩
      have f04 : FrS st σ ρ H σ4 ρ3 H3 := f2.trans f4 s2.sin
      have g4 := g2.from f4 s4.sin
      refine ⟨O, st, ρ3, S2, s4, ?_⟩
      dsimp only at g4
      cases eb : mb ρ3 S2 with
      | nx ρ5 S5 => rw [eb] at g4; exact fun σ5 H5 s5 f5 => ⟨ρ5, S5, s5, f04.trans f5 s4.sin, g4.from f5 s5.sin⟩
      | ct ρ5 S5 => rw [eb] at g4; exact fun σ5 H5 s5 f5 => ⟨ρ5, S5, s5, f04.trans f5 s4.sin, g4.from f5 s5.sin⟩
      | bk ρ5 S5 => rw [eb] at g4; exact g4
      | rt d S5 => rw [eb] at g4; exact g4
      | exc x S5 => rw [eb] at g4; exact g4
      | bad => rw [eb] at g4; exact g4
end
end Pf
end

section
set_option Elab.async false
set_option linter.all false
set_option maxRecDepth 100000
namespace Pf
open PySem PySem.Spec PyProof.Rows L2
variable [TabsC]

/-! ### the script walked -/
def asF : D → M (List D)
  | .frl ds => ret ds
  | _ => bad
section
variable {X : Cx} {E : XK} {e tg : Expr} {m : M D}
theorem ri_cF (he : RE X E e m) : RIc X E tg e (bnd m asF) := PIimp (pi_seq he) fun σ H Q h => by
  refine tG_mono (tG_bnd (R1 := RfD X.K X.mg) h) fun x H1 h1 => ?_
  obtain ⟨O, st, ρ, S, d, s, r, g⟩ := h1
  cases d <;> try (exact g.elim)
  obtain ⟨a, vs, rfl, h2, r2, hh⟩ := r_frl r
  exact ⟨a, rfl, .inl ⟨⟨vs, h2⟩, g _ _ FrE.refl s.state (wd_l fun A H f => hh A H f.2)⟩⟩
end

/-! ### the state of the draws, made -/
def greatOf (ns : List Int) : List Int := (ns.filter fun z => decide ((10 : Int) ^ 18 ≤ (z.natAbs : Int))).map fun z => (z.natAbs : Int) - 10 ^ 18
def cellsOf (ns : List Int) : List Int := ns.map fun z => (z.natAbs : Int)
def begunDS (ns : List Int) : DS := { great := greatOf ns, cells := cellsOf ns, rest := 0, turn := 0 }
def intsOf (ns : List Int) : List D := ns.map D.int
theorem intsD_of : ∀ ns : List Int, intsD (intsOf ns) = some ns
  | [] => rfl
  | n :: ns => by
    show (intsD (intsOf ns)).map (n :: ·) = _
    rw [intsD_of ns]
    rfl
theorem intsD_eq : ∀ {ds : List D} {ns : List Int}, intsD ds = some ns → ds = intsOf ns
  | [], ns, e => by cases e; rfl
  | d :: ds, ns, e => by
    cases d <;> try (cases e; done)
    rename_i i
    simp only [intsD, Option.map_eq_some_iff] at e
    obtain ⟨ms, e1, rfl⟩ := e
    rw [intsD_eq e1]
    rfl
theorem reps_ints {K : PySem.W.Frag} {mg : Str → Option Value} {st : StA} {H : Hp} {A : Addr → Prop} : ∀ ns : List Int, Reps K mg st H A (ns.map V.int) (intsOf ns)
  | [] => .nil
  | n :: ns => .cons (.int n) (reps_ints ns)
/-- the script at hand -/
def spBegun (K : PySem.W.Frag) (mg : Str → Option Value) : Sp := fun vs H Q E => ∃ (O : Addr → Prop) (st : StA) (S : DS) (v : V) (ns : List Int), vs = [v] ∧ Rep K mg st H (AV0 O st) v (.frl (intsOf ns)) ∧ ns.length ≤ 1000 ∧ StOk st H S ∧ (∀ a, O a → Hard H a) ∧ (∀ a, O a → ¬ stA st a) ∧
  ∀ H' p g c, FrE st H H' → StOk st H' S → H p = none → H g = none → H c = none → g ≠ c → H' p = some (.dK (drKv g c (begunDS ns))) → H' g = some (.lst ((greatOf ns).map V.int)) → H' c = some (.lst ((cellsOf ns).map V.int)) → Q (.ref p) H'
theorem begun_fn {P : Program} {w : World} {K : PySem.W.Frag} {mg : Str → Option Value} {base : Heap} {x sc gr : Str} {st : Stmt} {a : Addr} {fd : FuncData} {N : List Str} {k ig j1 j2 j3 j4 j5 j6 : Nat} {s1 : Stmt} {e2 : Expr} {m1 : MS} {m2 : M (List D)} {c1 c2 c3 c4 c5 c6 pg pd pr : Pos}
    (F : Fun K x x st a fd) (S : FnScope N [sc] (defScope st)) (hbody : defBody st = [s1, .Return (some (.Dict [some (.Constant (.str "great") j1 c1), some (.Constant (.str "cells") j2 c2), some (.Constant (.str "rest") j3 c3), some (.Constant (.str "turn") j4 c4)] [.Name gr pg, e2, .Constant (.int 0) j5 c5, .Constant (.int 0) j6 c6] pd)) pr])
    (hi : N[ig]? = some gr) (h0 : 0 < ig)
    (d1 : ∀ (cdv : Value) (A : Around) (outer : List Env) (s : Shared) (H : Hp) (E : XK), Ctx (cxOf (L2.CX P w) P w K mg base N x (defScope st) a cdv A outer s H E) E k → RS1 (cxOf (L2.CX P w) P w K mg base N x (defScope st) a cdv A outer s H E) E s1 m1)
    (d2 : ∀ (cdv : Value) (A : Around) (outer : List Env) (s : Shared) (H : Hp) (E : XK), Ctx (cxOf (L2.CX P w) P w K mg base N x (defScope st) a cdv A outer s H E) E k → RN (cxOf (L2.CX P w) P w K mg base N x (defScope st) a cdv A outer s H E) E e2 m2)
    (dg : ∀ (cdv : Value) (A : Around) (outer : List Env) (s : Shared) (H : Hp) (E : XK), PE (cxOf (L2.CX P w) P w K mg base N x (defScope st) a cdv A outer s H E) (.Name gr pg) (tVar ig))
    (v1 : ∀ (ns : List Int) (S : DS), ns.length ≤ 1000 → m1 (SD.val (.frl (intsOf ns)) :: List.replicate (N.length - 1) SD.no) S = .nx ((SD.val (.frl (intsOf ns)) :: List.replicate (N.length - 1) SD.no).set ig (.own (intsOf (greatOf ns)))) S)
    (v2 : ∀ (ns : List Int) (S : DS), ns.length ≤ 1000 → m2 ((SD.val (.frl (intsOf ns)) :: List.replicate (N.length - 1) SD.no).set ig (.own (intsOf (greatOf ns)))) S = .ok (intsOf (cellsOf ns)) S) :
    FnOk P w K mg base (L2.CX P w) (k + 1) a fd [sc] (spBegun K mg) := by
  refine F.okX S (fun vs H Q E h => ?_) (fun cdv A outer s H vs Q E hr h => ?_)
  · obtain ⟨O, st, S, v, ns, rfl, _⟩ := h
    rfl
  · obtain ⟨O, sta, S0, v, ns, rfl, r, hl, q, h1, h2, h3⟩ := h
    have tk : Takes (cxOf (L2.CX P w) P w K mg base N x (defScope st) a cdv A outer s H E) (fun cls d _ H => E cls d H) := takes_of rfl rfl rfl rfl
    have c : Ctx (cxOf (L2.CX P w) P w K mg base N x (defScope st) a cdv A outer s H E) E k := ⟨hr, passes_call tk fun _ _ _ _ z => z, rfl⟩
    obtain ⟨s1', n1⟩ := sim_start (N := N) (vs := [v]) (ds := [.frl (intsOf ns)]) (.cons r .nil) q h1 h2
    rw [hbody]
    refine ⟨_, pss_cons (d1 cdv A outer s H E c) (pss_one (ps_ret (pe_disp (pps_cons pe_str (dg cdv A outer s H E) (pps_cons pe_str (d2 cdv A outer s H E c) (pps_cons pe_str pe_int (pps_cons pe_str pe_int pps_nil)))) (by rfl) (by rfl) (fun z => by cases z) (show (4 : Nat) ≤ 15 by decide)))), ?_⟩
    refine ⟨O, sta, _, S0, s1', ?_⟩
    have e1 : m1 ([D.frl (intsOf ns)].map SD.val ++ List.replicate (N.length - [D.frl (intsOf ns)].length) SD.no) S0 = _ := v1 ns S0 hl
    rw [e1]
    refine fun σ1 H1 s2 f1 p np => ?_
    have hlen : ig < (SD.val (.frl (intsOf ns)) :: List.replicate (N.length - 1) SD.no).length := by
      have := (List.getElem?_eq_some_iff.mp hi).1
      simp; omega
    have eo : ((SD.val (.frl (intsOf ns)) :: List.replicate (N.length - 1) SD.no).set ig (.own (intsOf (greatOf ns))))[ig]? = some (.own (intsOf (greatOf ns))) := by
      rw [List.getElem?_set, if_pos rfl, if_pos hlen]
    obtain ⟨o, o1, o2⟩ := s2.slot ig _ eo
    cases o2 with
    | own hg rg =>
    rename_i g vg
    have evg : vg = (greatOf ns).map V.int := ints_vs rg (intsD_of _)
    subst evg
    have f1n : ∀ b ob, H b = some ob → ¬ stA sta b → H1 b = some ob := fun b ob h n => f1.keep b ob h n (n1 b)
    -- the dict is laid
    refine ⟨_, o1, ?_⟩
    have fp : FrE sta H1 (upd H1 p (.dK [])) := FrE.laid np
    have s3 := s2.ext fp (s2.state.laid np)
    refine ⟨O, sta, _, S0, s3, ?_⟩
    rw [v2 ns S0 hl]
    refine fun H2 cc vc f2 q2 nc rc => ?_
    have evc : vc = (cellsOf ns).map V.int := ints_vs rc (intsD_of _)
    subst evc
    have pst : ¬ stA sta p := fun z => s2.sin p z np
    have hp2 : H2 p = some (.dK []) := f2 p _ upd_same pst
    have hgo := (s2.far g ⟨ig, _, eo, trivial, o1⟩).2
    have ngp : g ≠ p := ne_of_none hg np
    have hg2 : H2 g = some (.lst ((greatOf ns).map V.int)) := f2 g _ (by rw [upd_ne ngp]; exact hg) hgo
    have ncp : p ≠ cc := by rintro rfl; rw [hp2] at nc; cases nc
    have ngc : g ≠ cc := by rintro rfl; rw [hg2] at nc; cases nc
    refine ⟨by rw [upd_ne ncp]; exact hp2, [(Sum.inr "great", .ref g), (Sum.inr "cells", .ref cc), (Sum.inr "rest", .int 0), (Sum.inr "turn", .int 0)], rfl, by show (4 : Nat) ≤ 15; decide, ?_⟩
    have em : mergeK [] [((Sum.inr "great" : Key), V.ref g), (Sum.inr "cells", .ref cc), (Sum.inr "rest", .int 0), (Sum.inr "turn", .int 0)] = drKv g cc (begunDS ns) := rfl
    rw [em]
    have back : ∀ b, H1 b = none → ¬ stA sta b → H b = none := fun b hb nb => by
      cases e : H b with
      | none => rfl
      | some ob => rw [f1n b ob e nb] at hb; cases hb
    have nst : ∀ b, H1 b = none → ¬ stA sta b := fun b hb z => s2.sin b z hb
    have hc1 : H1 cc = none := by
      cases e : H1 cc with
      | none => rfl
      | some ob =>
        by_cases z : stA sta cc
        · exact absurd nc (q2.sin cc z)
        · have := f2 cc ob (by rw [upd_ne (Ne.symm ncp)]; exact e) z
          rw [nc] at this; cases this
    have hg0 : H g = none := by
      rcases f1.new g ⟨ig, _, eo, trivial, o1⟩ with z | z
      · exact (n1 g z).elim
      · exact z
    refine h3 _ p g cc (fun b ob hb nb => ?_) ?_ (back p np pst) hg0 (back cc hc1 (nst cc hc1)) ngc upd_same (by rw [upd_ne ngp, upd_ne ngc]; exact hg2) (by rw [upd_ne (Ne.symm ncp)]; exact upd_same)
    · have b1 := f1n b ob hb nb
      have nbp : b ≠ p := ne_of_none b1 np
      have nbc : b ≠ cc := ne_of_none b1 hc1
      rw [upd_ne nbp, upd_ne nbc]
      exact f2 b ob (by rw [upd_ne nbp]; exact b1) nb
    · have q3 : StOk sta (upd H2 cc (.lst ((cellsOf ns).map V.int))) S0 := q2.laid nc
      refine q3.stay (fun b ob hb e => ?_) fun b φ e => ?_
      · rw [upd_ne (by rintro rfl; exact pst hb)]
        exact e
      · rw [upd_ne (by rintro rfl; rw [upd_ne ncp, hp2] at e; cases e)]
        exact e

/-! ### the law's first statement: the state stands from here on -/
structure BegT (P : Program) (w : World) (K : PySem.W.Frag) (mg : Str → Option Value) (x : Str) (k : Nat) : Prop where
  ex : ∃ (a : Addr) (fd : FuncData) (sc : Str), mg x = some (.ref a) ∧ PySem.W.keepIn K (.ref a) = true ∧ Binds K fd [sc] [] ∧ ∀ B : Heap, FnOk P w K mg B (L2.CX P w) k a fd [sc] (spBegun K mg)
def isNo : SD → Bool
  | .no => true
  | _ => false
def begOk (is id : Nat) (ρ : En) : Bool := (ρ.set is .no).all isNo && decide (is ≠ id) && decide (id < ρ.length)
/-- draws = _law_begun(script), then what follows; it ends with a truth -/
def mBegun (is id : Nat) (mr : MS) : MS := fun ρ S => match ρ[is]? with
  | some (.val (.frl ds)) => match intsD ds with
    | some ns => if begOk is id ρ = true ∧ ns.length ≤ 1000 then match mr (ρ.set id (.val .drw)) (begunDS ns) with
        | .rt (.bl b) S' => .rt (.bl b) S'
        | _ => .bad
      else .bad
    | none => .bad
  | _ => .bad
theorem reps_ints_st {K : PySem.W.Frag} {mg : Str → Option Value} {st st' : StA} {H H' : Hp} {A A' : Addr → Prop} {vs : List V} {ns : List Int} (r : Reps K mg st H A vs (intsOf ns)) : Reps K mg st' H' A' vs (intsOf ns) := by
  rw [ints_vs r (intsD_of ns)]
  exact reps_ints ns
theorem rep_frl_st {K : PySem.W.Frag} {mg : Str → Option Value} {st st' : StA} {H H' : Hp} {A A' : Addr → Prop} {v : V} {ns : List Int} (r : Rep K mg st H A v (.frl (intsOf ns))) (k : ∀ a o, H a = some o → ¬ A a → H' a = some o ∧ ¬ A' a) : Rep K mg st' H' A' v (.frl (intsOf ns)) := by
  cases r with
  | frl n h r =>
    rcases h with h | ⟨u, h⟩
    · exact .frl (k _ _ h n).2 (.inl (k _ _ h n).1) (reps_ints_st r)
    · exact .frl (k _ _ h n).2 (.inr ⟨u, (k _ _ h n).1⟩) (reps_ints_st r)
  | frlK h r => exact .frlK h (reps_ints_st r)
section
variable {X : Cx} {E : XK} {k j is id : Nat} {x dn : Str} {e : Expr} {rest : List Stmt} {mr : MS} {p1 p2 p3 p4 : Pos}
/-- how the whole law is read: only what comes out of it is told -/
def tLaw (K : PySem.W.Frag) (mg : Str → Option Value) (m : MS) : TS := fun D σ H => ∃ O st ρ S, Sim K mg O st σ H ρ S ∧ ∃ b S', m ρ S = .rt (.bl b) S' ∧ ∀ H', D.rt (.bl b) H'
theorem begun_inv {is id : Nat} {mr : MS} {ρ : En} {S S' : DS} {b : Bool} (h : mBegun is id mr ρ S = .rt (.bl b) S') : ∃ ns, ρ[is]? = some (.val (.frl (intsOf ns))) ∧ begOk is id ρ = true ∧ ns.length ≤ 1000 ∧ mr (ρ.set id (.val .drw)) (begunDS ns) = .rt (.bl b) S' := by
  unfold mBegun at h
  split at h <;> try (cases h; done)
  rename_i ds es
  split at h <;> try (cases h; done)
  rename_i ns en
  obtain rfl := intsD_eq en
  split at h <;> try (cases h; done)
  rename_i hok
  split at h <;> try (cases h; done)
  rename_i b2 S2 em
  cases h
  exact ⟨ns, es, hok.1, hok.2, em⟩
theorem pss_begun (T : BegT X.prog X.w X.K X.mg x j) (c : Ctx X E k) (hj : j ≤ k) (hg : Gl X x) (hN : X.N.Nodup) (hi : X.N[id]? = some dn) (hf : X.fn dn = true ∨ X.env.scope.names.lookup dn = some .local) (hxl : Loc X.env.scope dn) (hv : PE X e (tVar is)) (hr : RSs X E rest mr)
    (hdb : (x == ("__debug__" : Str)) = false := by decide) (hs : swapsWith (.Call (.Name x p2) [e] [] p3) (some (.Name dn p1)) p4.line X.env = pure false := by rfl) (he : starEach [e] X.env = (false, eval e X.env) :: starEach [] X.env := by rfl) :
    PSs X (.Assign [.Name dn p1] (.Call (.Name x p2) [e] [] p3) p4 :: rest) (tLaw X.K X.mg (mBegun is id mr)) := by
  obtain ⟨a, fd, sc, hm, hk, hb, ok⟩ := T.ex
  refine PSsimp (pss_cons (ps_set (i := id) hN hi hxl (hf := hf) (pe_call (ok X.base) (c.room.mono hj) hg hm hk hb .nil c.pass (pa_cons hv pa_nil he) hdb he) hs) hr) fun D σ H ⟨O, st, ρ, S, s, b, S9, g0, g⟩ => ?_
  obtain ⟨ns, es, hbo, hl, em⟩ := begun_inv g0
  unfold begOk at hbo
  simp only [Bool.and_eq_true, decide_eq_true_eq, List.all_eq_true] at hbo
  obtain ⟨⟨hno, hne⟩, hlt⟩ := hbo
  have allno : ∀ (i : Nat) (sd : SD), i ≠ is → ρ[i]? = some sd → sd = .no := fun i sd hii e => by
    have h2 : (ρ.set is .no)[i]? = some sd := by rw [get_set_ne (Ne.symm hii)]; exact e
    have := hno sd (List.mem_of_getElem? h2)
    cases sd <;> first | rfl | (simp [isNo] at this)
  have nown : ∀ a, ¬ ownA σ ρ a := fun a ⟨i, sd, e1, e2, _⟩ => by
    by_cases hii : i = is
    · subst hii; rw [es] at e1; cases e1; exact e2
    · rw [allno i sd hii e1] at e2; exact e2
  obtain ⟨o, o1, o2⟩ := s.slot is _ es
  cases o2 with
  | val r =>
  rename_i v
  refine ⟨_, o1, O, st, S, v, ns, rfl, r.weak (fun a z => z.elim .inl fun z => .inr (.inl z)), hl, s.state, s.there, s.off, fun H' p gg cc f q np ng nc ngc h1 h2 h3 => ?_⟩
  -- the new state's place
  have neq : ∀ a b d, some (p, gg, cc) = some (a, b, d) → b ≠ d := fun a b d e => by cases e; exact ngc
  have st' : ∃ st' : StA, st'.dr = some (p, gg, cc) := ⟨⟨some (p, gg, cc), neq⟩, rfl⟩
  obtain ⟨st', hst⟩ := st'
  have sta : ∀ a, stA st' a → (a = p ∨ a = gg ∨ a = cc) ∨ ∃ q, (a, q) ∈ TabsC.tb := fun a z => by
    rcases z with z | z
    · rw [hst] at z
      exact .inl z
    · exact .inr z
  have tabst : ∀ a, (∃ q, (a, q) ∈ TabsC.tb) → stA st a := fun a z => .inr z
  have fresh : ∀ a o, H a = some o → ¬ stA st a → ¬ stA st' a := fun a o e n z => by
    rcases sta a z with (z | z | z) | z
    · rw [z, np] at e; cases e
    · rw [z, ng] at e; cases e
    · rw [z, nc] at e; cases e
    · exact n (tabst a z)
  have state' : StOk st' H' (begunDS ns) := ⟨by rw [hst]; exact ⟨h1, h2, h3⟩, q.tb⟩
  have hlσ : σ.length = ρ.length := s.len
  have nown' : ∀ a, ¬ ownA (List.set σ id (some (V.ref p))) (ρ.set id (.val .drw)) a := fun a ⟨i, sd, e1, e2, _⟩ => by
    by_cases hid : id = i
    · subst hid
      rw [List.getElem?_set, if_pos rfl, if_pos hlt] at e1
      cases e1; exact e2
    · rw [get_set_ne hid] at e1
      by_cases hii : i = is
      · subst hii; rw [es] at e1; cases e1; exact e2
      · rw [allno i sd hii e1] at e2; exact e2
  have sim : Sim X.K X.mg O st' (List.set σ id (some (V.ref p))) H' (ρ.set id (.val .drw)) (begunDS ns) := by
    refine ⟨by rw [List.length_set, List.length_set]; exact hlσ, fun i sd e => ?_, fun i j s1 t1 a e1 e2 h1' h2' => ?_, fun a z => (nown' a z).elim, fun a z => ?_, state', state'.sin, fun a z => ?_⟩
    · by_cases hid : id = i
      · subst hid
        rw [List.getElem?_set, if_pos rfl, if_pos hlt] at e
        cases e
        exact ⟨_, by rw [List.getElem?_set, if_pos rfl, if_pos (by rw [hlσ]; exact hlt)], .val (.drw hst)⟩
      · rw [get_set_ne hid] at e
        by_cases hii : i = is
        · subst hii
          rw [es] at e; cases e
          refine ⟨some v, by rw [get_set_ne hid]; exact o1, .val (rep_frl_st r fun a ob ea na => ⟨f a ob ea fun z => na (.inr (.inl z)), fun z => ?_⟩)⟩
          rcases z with z | z | z
          · exact na (.inl z)
          · exact fresh a ob ea (fun y => na (.inr (.inl y))) z
          · exact nown' a z
        · have e0 := allno i sd hii e
          subst e0
          obtain ⟨o2, q1, _⟩ := s.slot i _ e
          exact ⟨o2, by rw [get_set_ne hid]; exact q1, .no⟩
    · exfalso
      by_cases hid : id = i
      · subst hid
        rw [List.getElem?_set, if_pos rfl, if_pos hlt] at e1
        cases e1; exact h1'
      · rw [get_set_ne hid] at e1
        by_cases hii : i = is
        · subst hii; rw [es] at e1; cases e1; exact h1'
        · rw [allno i s1 hii e1] at h1'; exact h1'
    · obtain ⟨ob, e1, e2⟩ := s.there a z
      exact ⟨ob, f a ob e1 (s.off a z), e2⟩
    · obtain ⟨ob, e1, e2⟩ := s.there a z
      exact fresh a ob e1 (s.off a z)
  refine ⟨O, st', _, _, sim, ?_⟩
  rw [em]
  intro v2 H2 fr q2 r2
  cases r2
  exact g H2
end

/-! ### the law as a def -/
def spLaw (K : PySem.W.Frag) : Sp := fun vs H Q E => ∃ (a : Addr) (ns : List Int), vs = [.ref a] ∧ ns.length ≤ 63 ∧ SqL K H a (ns.map V.int) ∧ (∀ p ∈ TabsC.tb, H p.1 = some (.tbl #[])) ∧ ∀ H', Q (.bl true) H'
def dsNil : DS := ⟨[], [], 0, 0⟩
theorem law_fn {P : Program} {w : World} {K : PySem.W.Frag} {mg : Str → Option Value} {base : Heap} {x sc : Str} {st : Stmt} {a c : Addr} {fd : FuncData} {N : List Str} {k : Nat} {mb : MS}
    (F : Fun K x x st a fd) (hc : fd.code = .ref c) (S : FnScope N [sc] (defScope st))
    (body : ∀ (A : Around) (outer : List Env) (s : Shared) (H : Hp) (E : XK), Ctx (cxOf (L2.CX P w) P w K mg base N x (defScope st) a (.ref c) A outer s H E) E k → PassesOwn (model P w) (cxOf (L2.CX P w) P w K mg base N x (defScope st) a (.ref c) A outer s H E).A (cxOf (L2.CX P w) P w K mg base N x (defScope st) a (.ref c) A outer s H E).env (cxOf (L2.CX P w) P w K mg base N x (defScope st) a (.ref c) A outer s H E).xe →
      Takes (cxOf (L2.CX P w) P w K mg base N x (defScope st) a (.ref c) A outer s H E) (fun cls d _ H => E cls d H) →
      PSs (cxOf (L2.CX P w) P w K mg base N x (defScope st) a (.ref c) A outer s H E) (defBody st) (tLaw K mg mb))
    (hmb : ∀ ns : List Int, ns.length ≤ 63 → ∃ S', mb (SD.val (.frl (intsOf ns)) :: List.replicate (N.length - 1) SD.no) dsNil = .rt (.bl true) S') : FnOk P w K mg base (L2.CX P w) (k + 1) a fd [sc] (spLaw K) := by
  refine fun_okC F hc S (fun vs H Q E h => ?_) (fun A outer s H vs Q E hr h => ?_)
  · obtain ⟨b, ns, rfl, _⟩ := h
    rfl
  · obtain ⟨b, ns, rfl, hl, hq, ht, h3⟩ := h
    have tk : Takes (cxOf (L2.CX P w) P w K mg base N x (defScope st) a (.ref c) A outer s H E) (fun cls d _ H => E cls d H) := takes_of rfl rfl rfl rfl
    refine ⟨_, body A outer s H E ⟨hr, passes_call tk fun _ _ _ _ z => z, rfl⟩ (passes_of rfl) tk, ?_⟩
    have sta : ∃ st0 : StA, st0.dr = none := ⟨⟨none, fun _ _ _ z => by cases z⟩, rfl⟩
    obtain ⟨st0, hst⟩ := sta
    have q : StOk st0 H dsNil := ⟨by rw [hst]; trivial, fun p hp => ⟨#[], ht p hp, True.intro, (fun pos cv z => by cases z)⟩⟩
    have inT : ∀ a, stA st0 a → H a = some (.tbl #[]) := fun a z => by
      rcases z with z | ⟨y, z⟩
      · rw [hst] at z; exact z.elim
      · exact ht _ z
    have r : Rep K mg st0 H (AV0 (fun _ => False) st0) (.ref b) (.frl (intsOf ns)) := by
      rcases hq with hq | hq
      · refine .frl (fun z => ?_) hq (reps_ints ns)
        have e := inT b (z.elim False.elim fun z => z)
        rcases hq with h | ⟨u, h⟩
        · rw [h] at e; cases e
        · rw [h] at e; cases e
      · exact .frlK (.inr hq) (reps_ints ns)
    obtain ⟨s1, n1⟩ := sim_start (N := N) (vs := [.ref b]) (ds := [.frl (intsOf ns)]) (.cons r .nil) q (fun _ z => z.elim) (fun _ z => z.elim)
    obtain ⟨S', e⟩ := hmb ns hl
    exact ⟨_, st0, _, dsNil, s1, true, S', e, h3⟩
end Pf
namespace Pf
open PySem PySem.Spec L2
def lamOf : Expr → Option LamSp
  | .Tuple [.Lambda p b sc lp, .Constant (.str d) 0 cp] 0 tp => some ⟨p, b, sc, lp, d, cp, tp⟩
  | _ => none
def lamsOf : Stmt → List LamSp
  | .Assign [_] (.List es _) _ => es.filterMap lamOf
  | _ => []
end Pf
end

section
set_option Elab.async false
set_option linter.all false
set_option maxRecDepth 100000
namespace Pf
open PySem PySem.Spec L2

/-! ### reckoning with mirrors -/
section
variable {α β γ : Type} (ρ : En) (S : DS)
@[simp] theorem ev_ret (a : α) : ret a ρ S = .ok a S := rfl
@[simp] theorem ev_bad : (bad : M α) ρ S = .bad := rfl
@[simp] theorem ev_bnd (m : M α) (f : α → M β) : bnd m f ρ S = (match m ρ S with | .ok a S' => f a ρ S' | .exc x S' => .exc x S' | .bad => .bad) := rfl
@[simp] theorem ev_bn2 (m : M α) (n : M β) (f : α → β → M γ) : bn2 m n f ρ S = bnd m (fun x => bnd n fun y => f x y) ρ S := rfl
@[simp] theorem ev_lft (a : α) : lft (some a) ρ S = .ok a S := rfl
@[simp] theorem ev_lftn : lft (none : Option α) ρ S = .bad := rfl
@[simp] theorem ev_var (i : Nat) : mVar i ρ S = (match ρ[i]? with | some (.val d) => .ok d S | _ => .bad) := rfl
@[simp] theorem ev_own (i : Nat) : mOwn i ρ S = (match ρ[i]? with | some (.own ds) => .ok (.lst ds) S | some (.val d) => .ok d S | _ => .bad) := rfl
@[simp] theorem ev_b1 (m : M D) (f : D → Option D) : mB1 m f ρ S = bnd m (fun x => lft (f x)) ρ S := rfl
@[simp] theorem ev_cons (m : M D) (ms : M (List D)) : mCons m ms ρ S = bnd m (fun d => bnd ms fun ds => ret (d :: ds)) ρ S := rfl
@[simp] theorem ev_tup (ms : M (List D)) : mTup ms ρ S = bnd ms (fun ds => if ds.length ≤ 1000 then ret (.tup ds) else bad) ρ S := rfl
@[simp] theorem ev_lst (ms : M (List D)) : mLst ms ρ S = bnd ms (fun ds => if ds.length ≤ 1000 then ret (.lst ds) else bad) ρ S := rfl
@[simp] theorem ev_if (mc : M Bool) (m1 m2 : M α) : mIf mc m1 m2 ρ S = bnd mc (fun k => if k = true then m1 else m2) ρ S := rfl
@[simp] theorem ev_and (m1 m2 : M D) : mAnd m1 m2 ρ S = (match m1 ρ S with | .ok (.bl k) S' => (if k = true then m2 else ret (.bl false)) ρ S' | .ok _ _ => .bad | .exc x S' => .exc x S' | .bad => .bad) := by
  unfold mAnd bnd
  cases m1 ρ S with
  | ok d S' => cases d <;> rfl
  | exc x S' => rfl
  | bad => rfl
@[simp] theorem ev_or (m1 m2 : M D) : mOr m1 m2 ρ S = (match m1 ρ S with | .ok (.bl k) S' => (if k = true then ret (.bl true) else m2) ρ S' | .ok _ _ => .bad | .exc x S' => .exc x S' | .bad => .bad) := by
  unfold mOr bnd
  cases m1 ρ S with
  | ok d S' => cases d <;> rfl
  | exc x S' => rfl
  | bad => rfl
@[simp] theorem ev_not (m : M D) : mNot m ρ S = (match m ρ S with | .ok (.bl k) S' => .ok (.bl (!k)) S' | .ok _ _ => .bad | .exc x S' => .exc x S' | .bad => .bad) := by
  unfold mNot bnd
  cases m ρ S with
  | ok d S' => cases d <;> rfl
  | exc x S' => rfl
  | bad => rfl
@[simp] theorem ev_andT (m1 m2 : M Bool) : mAndT m1 m2 ρ S = bnd m1 (fun k => if k = true then m2 else ret false) ρ S := rfl
@[simp] theorem ev_orT (m1 m2 : M Bool) : mOrT m1 m2 ρ S = bnd m1 (fun k => if k = true then ret true else m2) ρ S := rfl
@[simp] theorem ev_notT (m : M Bool) : mNotT m ρ S = bnd m (fun k => ret (!k)) ρ S := rfl
@[simp] theorem ev_asB (b : Bool) : asB (.bl b) ρ S = .ok b S := rfl
@[simp] theorem ev_bB (b : Bool) : bB b ρ S = .ok (.bl b) S := rfl
@[simp] theorem ev_chain (ma mb mc : M D) (f g : D → D → Option Bool) : mChain ma mb mc f g ρ S = bnd ma (fun x => bnd mb fun y => bnd (lft (f x y)) fun k => if k = true then bnd mc fun z => lft (g y z) else ret false) ρ S := rfl
@[simp] theorem ev_ite (c : Prop) [Decidable c] (m n : M α) : (if c then m else n) ρ S = if c then m ρ S else n ρ S := by split <;> rfl
@[simp] theorem ev_call (n : Nat) (ms : M (List D)) (m : List D → DS → Res D) : mCall n ms m ρ S = bnd ms (fun ds => if ds.length = n then (fun _ S => m ds S) else bad) ρ S := rfl
@[simp] theorem ev_callK (perm : List Nat) (ms : M (List D)) (m : List D → DS → Res D) : mCallK perm ms m ρ S = bnd ms (fun ds => if ds.length = perm.length then (fun _ S => m (perm.map fun i => ds.getD i .non) S) else bad) ρ S := rfl
@[simp] theorem ev_val (m : M D) : mVal m ρ S = bnd m (fun d => ret (.val d)) ρ S := rfl
@[simp] theorem ev_ownL (m : M (List D)) : mOwnL m ρ S = bnd m (fun d => ret (.own d)) ρ S := rfl
@[simp] theorem ev_asLl (ds : List D) : asL (.lst ds) ρ S = .ok ds S := rfl
@[simp] theorem ev_asLt (ds : List D) : asL (.tup ds) ρ S = .ok ds S := rfl
@[simp] theorem ev_asF (ds : List D) : asF (.frl ds) ρ S = .ok ds S := rfl
@[simp] theorem ev_st (k : StK) (i : Nat) : mSt k i ρ S = (match ρ[i]? with | some (.val .drw) => .ok (.int (k.get S)) S | _ => .bad) := rfl
@[simp] theorem ev_gne (i : Nat) : mGreatNe i ρ S = (match ρ[i]? with | some (.val .drw) => .ok (!S.great.isEmpty) S | _ => .bad) := rfl
@[simp] theorem ev_putSt (k : StK) (i : Nat) (m : M D) : sPutSt k i m ρ S = (match m ρ S with
    | .ok d S' => (match ρ[i]?, d with | some (.val .drw), .int z => .nx ρ (k.put S' z) | _, _ => .bad)
    | .exc x S' => .exc x S' | .bad => .bad) := by
  unfold sPutSt sE
  cases m ρ S <;> rfl
@[simp] theorem es_sE (m : M α) (k : α → MS) : sE m k ρ S = (match m ρ S with | .ok a S' => k a ρ S' | .exc x S' => .exc x S' | .bad => .bad) := rfl
@[simp] theorem es_set (i : Nat) (d : D) : sSet i d ρ S = .nx (ρ.set i (.val d)) S := rfl
@[simp] theorem es_own (i : Nat) (ds : List D) : sOwn i ds ρ S = if i < ρ.length then .nx (ρ.set i (.own ds)) S else .bad := rfl
@[simp] theorem es_nil : sNil ρ S = .nx ρ S := rfl
@[simp] theorem es_seq (a b : MS) : sSeq a b ρ S = (match a ρ S with | .nx ρ' S' => b ρ' S' | r => r) := rfl
@[simp] theorem es_if (mc : M Bool) (a b : MS) : sIf mc a b ρ S = (match mc ρ S with | .ok k S' => (if k = true then a else b) ρ S' | .exc x S' => .exc x S' | .bad => .bad) := by
  unfold sIf sE
  cases mc ρ S <;> rfl
@[simp] theorem es_ite (c : Prop) [Decidable c] (m n : MS) : (if c then m else n) ρ S = if c then m ρ S else n ρ S := by split <;> rfl
@[simp] theorem es_rt (d : D) : sRt d ρ S = .rt d S := rfl
@[simp] theorem es_drop (m : M D) : sDrop m ρ S = (match m ρ S with | .ok _ S' => .nx ρ S' | .exc x S' => .exc x S' | .bad => .bad) := by
  unfold sDrop sE
  cases m ρ S <;> rfl
@[simp] theorem es_put (i : Nat) (sd : SD) : sPut i sd ρ S = if i < ρ.length then .nx (ρ.set i sd) S else .bad := rfl
@[simp] theorem es_two (ma mb : M SD) (i j : Nat) : mTwo ma mb i j ρ S = sE ma (fun s => sE mb fun t ρ S => if i < ρ.length ∧ j < ρ.length then .nx ((ρ.set i s).set j t) S else .bad) ρ S := rfl
@[simp] theorem es_r0 (c : Str) : sRaise0 c ρ S = .exc (c, none) S := rfl
@[simp] theorem es_r1 (c f : Str) (m : M D) : sRaise1 c f m ρ S = (match m ρ S with | .ok d S' => .exc (c, some (f, d)) S' | .exc x S' => .exc x S' | .bad => .bad) := by
  unfold sRaise1 sE
  cases m ρ S <;> rfl
@[simp] theorem es_for (mi : M (List D)) (g : GP) (body : MS) : sFor mi g body ρ S = (match mi ρ S with | .ok its S' => forLoop g body its ρ S' | .exc x S' => .exc x S' | .bad => .bad) := by
  unfold sFor sE
  cases mi ρ S <;> rfl
@[simp] theorem ev_lc (mi : M (List D)) (vs : List Nat) (g : GP) (tt : M Bool) (te : M D) : mLc mi vs g tt te ρ S = (match mi ρ S with | .ok its S' => if its.length ≤ 16777216 ∧ vs.all (notOwn ρ) = true then lcLoop vs g tt te its ρ S' else .bad | .exc x S' => .exc x S' | .bad => .bad) := by
  unfold mLc bnd
  cases mi ρ S <;> rfl
end
section
variable (i j : Int) (a b : Bool) (x y : Str)
@[simp] theorem d_add : dAdd (.int i) (.int j) = some (.int (i + j)) := rfl
@[simp] theorem d_sub : dSub (.int i) (.int j) = some (.int (i - j)) := rfl
@[simp] theorem d_mod : dMod (.int i) (.int j) = if j ≠ 0 then some (.int (i.fmod j)) else none := rfl
@[simp] theorem d_div : dDiv (.int i) (.int j) = if j ≠ 0 ∧ j.natAbs < 1073741824 then some (.int (i.fdiv j)) else none := rfl
@[simp] theorem d_mul : dMul (.int i) (.int j) = if (-(2 ^ 64) < i ∧ i < 2 ^ 64) ∨ (-(2 ^ 64) < j ∧ j < 2 ^ 64) then some (.int (i * j)) else none := rfl
@[simp] theorem d_pow : dPow (.int i) (.int j) = if 0 ≤ j ∧ j ≤ 1000000 ∧ i.natAbs < 2 ^ 64 then some (.int (i ^ j.toNat)) else none := rfl
@[simp] theorem d_int : dInt (.int i) = some (.int i) := rfl
@[simp] theorem d_abs : dAbs (.int i) = some (.int (if i < 0 then -i else i)) := rfl
@[simp] theorem d_eqi : dEq (.int i) (.int j) = some (decide (i = j)) := rfl
@[simp] theorem d_eqb : dEq (.bl a) (.bl b) = some (decide (a = b)) := rfl
@[simp] theorem d_eqs : dEq (.str x) (.str y) = some (decide (x = y)) := rfl
@[simp] theorem d_eqn : dEq .non .non = some true := rfl
@[simp] theorem d_lti : dLt (.int i) (.int j) = some (decide (i < j)) := rfl
@[simp] theorem d_lei : dLe (.int i) (.int j) = some (decide (i ≤ j)) := rfl
@[simp] theorem d_gti : dGt (.int i) (.int j) = some (decide (j < i)) := rfl
@[simp] theorem d_gei : dGe (.int i) (.int j) = some (decide (j ≤ i)) := rfl
@[simp] theorem d_mB (k : Bool) : mB (some k) = some (.bl k) := rfl
end

/-! ### the script's state is made -/
def b1__law_begun : MS := (sE (mLc (bnd (mVar 0) asF) [2] (gpName 2) (bn2 (mB1 (mVar 2) dAbs) (bn2 (ret (.int 10)) (ret (.int 18)) fun x y => lft (dPow x y)) fun x y => lft (dGe x y)) (bn2 (mB1 (mVar 2) dAbs) (bn2 (ret (.int 10)) (ret (.int 18)) fun x y => lft (dPow x y)) fun x y => lft (dSub x y))) (sOwn 1))
def b2__law_begun : M (List D) := (mLc (bnd (mVar 0) asF) [2] (gpName 2) (ret true) (mB1 (mVar 2) dAbs))
theorem abs_if (z : Int) : (if z < 0 then -z else z) = (z.natAbs : Int) := by split <;> omega
theorem begun_l1 (s : SD) (a : SD) (S : DS) : ∀ ns : List Int, lcLoop [2] (gpName 2) (bn2 (mB1 (mVar 2) dAbs) (bn2 (ret (.int 10)) (ret (.int 18)) fun x y => lft (dPow x y)) fun x y => lft (dGe x y)) (bn2 (mB1 (mVar 2) dAbs) (bn2 (ret (.int 10)) (ret (.int 18)) fun x y => lft (dPow x y)) fun x y => lft (dSub x y)) (intsOf ns) [s, a, .no] S = .ok (intsOf (greatOf ns)) S
  | [] => rfl
  | z :: ns => by
    have ih := begun_l1 s a S ns
    have hw : wipeE [s, a, SD.no] [2] = [s, a, .no] := rfl
    show lcLoop _ _ _ _ (.int z :: intsOf ns) _ _ = _
    unfold lcLoop
    rw [hw]
    have hg : gpName 2 (.int z) [s, a, SD.no] = some [s, a, .val (.int z)] := rfl
    rw [hg]
    have hp : (10 : Int) ^ (18 : Int).toNat = 10 ^ 18 := by decide
    by_cases hz : (10 : Int) ^ 18 ≤ (z.natAbs : Int)
    · have hz2 : (1000000000000000000 : Int) ≤ (z.natAbs : Int) := by simpa using hz
      simp [abs_if, hp, hz2]
      rw [ih]
      simp [greatOf, List.filter_cons, hz2, intsOf]
    · have hz2 : ¬ (1000000000000000000 : Int) ≤ (z.natAbs : Int) := by simpa using hz
      simp [abs_if, hp, hz2]
      rw [ih]
      simp [greatOf, List.filter_cons, hz2, intsOf]
theorem begun_l2 (s : SD) (a : SD) (S : DS) : ∀ ns : List Int, lcLoop [2] (gpName 2) (ret true) (mB1 (mVar 2) dAbs) (intsOf ns) [s, a, .no] S = .ok (intsOf (cellsOf ns)) S
  | [] => rfl
  | z :: ns => by
    have ih := begun_l2 s a S ns
    have hw : wipeE [s, a, SD.no] [2] = [s, a, .no] := rfl
    show lcLoop _ _ _ _ (.int z :: intsOf ns) _ _ = _
    unfold lcLoop
    rw [hw]
    have hg : gpName 2 (.int z) [s, a, SD.no] = some [s, a, .val (.int z)] := rfl
    rw [hg]
    simp [abs_if]
    rw [ih]
    simp [cellsOf, intsOf]
theorem begun_v1 (ns : List Int) (S : DS) (h : ns.length ≤ 1000) : b1__law_begun (SD.val (.frl (intsOf ns)) :: List.replicate (3 - 1) SD.no) S = .nx ((SD.val (.frl (intsOf ns)) :: List.replicate (3 - 1) SD.no).set 1 (.own (intsOf (greatOf ns)))) S := by
  have hl : (intsOf ns).length ≤ 16777216 := by simp [intsOf]; omega
  have := begun_l1 (.val (.frl (intsOf ns))) .no S ns
  unfold b1__law_begun
  simp [hl, notOwn, List.replicate]
  rw [this]
theorem begun_v2 (ns : List Int) (S : DS) (h : ns.length ≤ 1000) : b2__law_begun ((SD.val (.frl (intsOf ns)) :: List.replicate (3 - 1) SD.no).set 1 (.own (intsOf (greatOf ns)))) S = .ok (intsOf (cellsOf ns)) S := by
  have hl : (intsOf ns).length ≤ 16777216 := by simp [intsOf]; omega
  have := begun_l2 (.val (.frl (intsOf ns))) (.own (intsOf (greatOf ns))) S ns
  unfold b2__law_begun
  simp [hl, notOwn, List.replicate]
  rw [this]

/-! ### draws -/
def b__law_blended : MS := (sSeq (mTwo (mVal (bn2 (mSt .turn 0) (ret (.int 1)) fun x y => lft (dAdd x y))) (mVal (ret (.int 0))) 1 2)
  (sSeq (sPutSt .turn 0 (mVar 1))
  (sSeq (sFor (bnd (mLst (mCons (ret (.int 2147483579)) (mCons (ret (.int 2147483629)) (mCons (ret (.int 2147483563)) (ret []))))) asL) (gpName 3) (sSeq (sE (bn2 (bn2 (ret (.int 48271)) (mVar 1) fun x y => lft (dMul x y)) (bn2 (mVar 3) (ret (.int 53)) fun x y => lft (dDiv x y)) fun x y => lft (dAdd x y)) (sSet 4))
  (sSeq (sForC 0 2000 (gpName 5) (sE (bn2 (mB1 (bn2 (bn2 (bn2 (mVar 4) (ret (.int 69621)) fun x y => lft (dMul x y)) (mVar 5) fun x y => lft (dAdd x y)) (mVar 1) fun x y => lft (dAdd x y)) dInt) (mVar 3) fun x y => lft (dMod x y)) (sSet 4)))
  (sE (bn2 (bn2 (mVar 2) (ret (.int 2147483647)) fun x y => lft (dMul x y)) (bn2 (mB1 (bn2 (mVar 4) (ret (.int 5)) fun x y => lft (dPow x y)) dInt) (mVar 3) fun x y => lft (dMod x y)) fun x y => lft (dAdd x y)) (sSet 2)))))
  (sE (mVar 2) sRt))))
def f__law_blended : List D → DS → Res D := runFn 6 b__law_blended
def b__law_draw : MS := (sSeq (sIf (bn2 (mSt .rest 0) (ret (.int 0)) fun x y => lft (dEq x y)) (sPutSt .rest 0 (mIf (mGreatNe 0) (mGreatPop 0) (mCall 1 (mCons (mVar 0) (ret [])) f__law_blended))) sNil)
  (sSeq (sE (bn2 (mB1 (mSt .rest 0) dInt) (mVar 1) fun x y => lft (dMod x y)) (sSet 2))
  (sSeq (sPutSt .rest 0 (bn2 (mSt .rest 0) (mVar 1) fun x y => lft (dDiv x y)))
  (sE (mVar 2) sRt))))
def f__law_draw : List D → DS → Res D := runFn 3 b__law_draw
def b__law_pick : MS := (sE (bn2 (mVar 1) (mCall 2 (mCons (mVar 0) (mCons (mB1 (mVar 1) dLen) (ret []))) f__law_draw) fun x y => lft (dIx x y)) sRt)
def f__law_pick : List D → DS → Res D := runFn 2 b__law_pick
end Pf
end

section
set_option Elab.async false
set_option linter.all false
set_option maxRecDepth 100000
namespace Pf
open PySem PySem.Spec L2

theorem runFn_rt {N : Nat} {mb : MS} {ds : List D} {S S' : DS} {ρ : En} {d : D} (e : ds.map SD.val ++ List.replicate (N - ds.length) SD.no = ρ) (h : mb ρ S = .rt d S') : runFn N mb ds S = .ok d S' := by
  unfold runFn
  rw [e, h]
theorem runFn_nx {N : Nat} {mb : MS} {ds : List D} {S S' : DS} {ρ ρ' : En} (e : ds.map SD.val ++ List.replicate (N - ds.length) SD.no = ρ) (h : mb ρ S = .nx ρ' S') : runFn N mb ds S = .ok .non S' := by
  unfold runFn
  rw [e, h]
theorem runFn_exc {N : Nat} {mb : MS} {ds : List D} {S S' : DS} {ρ : En} {x : XV} (e : ds.map SD.val ++ List.replicate (N - ds.length) SD.no = ρ) (h : mb ρ S = .exc x S') : runFn N mb ds S = .exc x S' := by
  unfold runFn
  rw [e, h]
/-- the state of the draws is sound, with n draws to spare -/
structure DOk (n : Nat) (S : DS) : Prop where
  rest : 0 ≤ S.rest
  great : ∀ z ∈ S.great, (0 : Int) ≤ z
  cells : ∀ z ∈ S.cells, (0 : Int) ≤ z
  few : S.cells.length ≤ 1000
  turn : 0 ≤ S.turn ∧ S.turn + n ≤ 2 ^ 40
theorem DOk.less {n m : Nat} {S : DS} (h : DOk n S) (e : m ≤ n) : DOk m S := ⟨h.rest, h.great, h.cells, h.few, by have := h.turn; omega⟩
theorem DOk.begun {ns : List Int} (h : ns.length ≤ 63) : DOk 1000000000000 (begunDS ns) := by
  refine ⟨Int.le_refl 0, fun z hz => ?_, fun z hz => ?_, ?_, ?_⟩
  · simp only [begunDS, greatOf, List.mem_map, List.mem_filter, decide_eq_true_eq] at hz
    obtain ⟨y, ⟨_, h2⟩, rfl⟩ := hz
    omega
  · simp only [begunDS, cellsOf, List.mem_map] at hz
    obtain ⟨y, _, rfl⟩ := hz
    omega
  · simp only [begunDS, cellsOf, List.length_map]
    omega
  · show (0 : Int) ≤ 0 ∧ (0 : Int) + (1000000000000 : Nat) ≤ 2 ^ 40
    decide
abbrev cellB : MS := (sE (bn2 (mB1 (bn2 (bn2 (bn2 (mVar 4) (ret (.int 69621)) fun x y => lft (dMul x y)) (mVar 5) fun x y => lft (dAdd x y)) (mVar 1) fun x y => lft (dAdd x y)) dInt) (mVar 3) fun x y => lft (dMod x y)) (sSet 4))
theorem cells_loop {turn found prime : Int} {S : DS} (hp : 0 < prime ∧ prime < 2 ^ 40) : ∀ (n k : Nat) (blend : Int) (c : SD), S.cells.length - k < n → k ≤ S.cells.length → ¬ isOwn c → 0 ≤ blend ∧ blend < 2 ^ 60 →
    ∃ b' c', forC (gpName 5) cellB n k [.val .drw, .val (.int turn), .val (.int found), .val (.int prime), .val (.int blend), c] S = .nx [.val .drw, .val (.int turn), .val (.int found), .val (.int prime), .val (.int b'), c'] S ∧ ¬ isOwn c' ∧ 0 ≤ b' ∧ b' < 2 ^ 60
  | 0, k, blend, c, h, _, _, _ => absurd h (Nat.not_lt_zero _)
  | n + 1, k, blend, c, h, hk, hc, hb => by
    unfold forC
    cases e : S.cells[k]? with
    | none => exact ⟨blend, c, rfl, hc, hb⟩
    | some z =>
      have hkl := (List.getElem?_eq_some_iff.mp e).1
      have hno : notOwn [SD.val .drw, .val (.int turn), .val (.int found), .val (.int prime), .val (.int blend), c] 5 = true := by
        cases c <;> first | rfl | exact (hc trivial).elim
      have hg : gpName 5 (.int z) [SD.val .drw, .val (.int turn), .val (.int found), .val (.int prime), .val (.int blend), c] = some [SD.val .drw, .val (.int turn), .val (.int found), .val (.int prime), .val (.int blend), .val (.int z)] := by
        unfold gpName
        rw [if_pos hno]
        rfl
      have hpz : prime ≠ 0 := by omega
      have hm : (-(2 ^ 64) < blend ∧ blend < 2 ^ 64) ∨ (-(2 ^ 64) < (69621 : Int) ∧ (69621 : Int) < 2 ^ 64) := .inr (by decide)
      have hbody : cellB [SD.val .drw, .val (.int turn), .val (.int found), .val (.int prime), .val (.int blend), .val (.int z)] S = .nx [SD.val .drw, .val (.int turn), .val (.int found), .val (.int prime), .val (.int ((blend * 69621 + z + turn).fmod prime)), .val (.int z)] S := by
        simp [hpz]
      dsimp only
      rw [hg]
      dsimp only
      rw [hbody]
      have e1 : (blend * 69621 + z + turn).fmod prime = (blend * 69621 + z + turn) % prime := Int.fmod_eq_emod_of_nonneg _ (by omega)
      have h1 := Int.emod_nonneg (blend * 69621 + z + turn) hpz
      have h2 := Int.emod_lt_of_pos (blend * 69621 + z + turn) hp.1
      exact cells_loop hp n (k + 1) _ (.val (.int z)) (by omega) hkl (fun q => q) ⟨by rw [e1]; exact h1, by rw [e1]; omega⟩
abbrev primeB : MS := (sSeq (sE (bn2 (bn2 (ret (.int 48271)) (mVar 1) fun x y => lft (dMul x y)) (bn2 (mVar 3) (ret (.int 53)) fun x y => lft (dDiv x y)) fun x y => lft (dAdd x y)) (sSet 4))
  (sSeq (sForC 0 2000 (gpName 5) cellB)
  (sE (bn2 (bn2 (mVar 2) (ret (.int 2147483647)) fun x y => lft (dMul x y)) (bn2 (mB1 (bn2 (mVar 4) (ret (.int 5)) fun x y => lft (dPow x y)) dInt) (mVar 3) fun x y => lft (dMod x y)) fun x y => lft (dAdd x y)) (sSet 2))))
theorem prime_step {turn found prime : Int} {S : DS} {n : Nat} {p0 b c : SD} (hS : DOk n S) (ht : 0 ≤ turn ∧ turn ≤ 2 ^ 40) (hf : 0 ≤ found) (hp : 0 < prime ∧ prime < 2 ^ 40) (hc : ¬ isOwn c) :
    ∃ f' b' c', primeB [.val .drw, .val (.int turn), .val (.int found), .val (.int prime), b, c] S = .nx [.val .drw, .val (.int turn), .val (.int f'), .val (.int prime), .val (.int b'), c'] S ∧ 0 ≤ f' ∧ ¬ isOwn c' := by
  have hdiv : prime.fdiv 53 = prime / 53 := Int.fdiv_eq_ediv_of_nonneg _ (by decide)
  have hq : 0 ≤ prime / 53 ∧ prime / 53 < 2 ^ 40 := by omega
  have hm : (-(2 ^ 64) < (48271 : Int) ∧ (48271 : Int) < 2 ^ 64) ∨ (-(2 ^ 64) < turn ∧ turn < 2 ^ 64) := .inl (by decide)
  have h1 : sE (bn2 (bn2 (ret (.int 48271)) (mVar 1) fun x y => lft (dMul x y)) (bn2 (mVar 3) (ret (.int 53)) fun x y => lft (dDiv x y)) fun x y => lft (dAdd x y)) (sSet 4) [.val .drw, .val (.int turn), .val (.int found), .val (.int prime), b, c] S
      = .nx [.val .drw, .val (.int turn), .val (.int found), .val (.int prime), .val (.int (48271 * turn + prime.fdiv 53)), c] S := by simp
  obtain ⟨b', c', h2, hc', hb1, hb2⟩ := cells_loop (turn := turn) (found := found) (S := S) hp 2000 0 (48271 * turn + prime.fdiv 53) c (by have := hS.few; omega) (Nat.zero_le _) hc ⟨by rw [hdiv]; omega, by rw [hdiv]; omega⟩
  have hpz : prime ≠ 0 := by omega
  have hn : b'.natAbs < 2 ^ 64 := by omega
  have hn2 : b'.natAbs < 18446744073709551616 := by omega
  have h3 : sE (bn2 (bn2 (mVar 2) (ret (.int 2147483647)) fun x y => lft (dMul x y)) (bn2 (mB1 (bn2 (mVar 4) (ret (.int 5)) fun x y => lft (dPow x y)) dInt) (mVar 3) fun x y => lft (dMod x y)) fun x y => lft (dAdd x y)) (sSet 2) [.val .drw, .val (.int turn), .val (.int found), .val (.int prime), .val (.int b'), c'] S
      = .nx [.val .drw, .val (.int turn), .val (.int (found * 2147483647 + (b' ^ 5).fmod prime)), .val (.int prime), .val (.int b'), c'] S := by
    have h5 : (5 : Int).toNat = 5 := rfl
    simp [hpz, hn2, h5]
  refine ⟨found * 2147483647 + (b' ^ 5).fmod prime, b', c', ?_, ?_, hc'⟩
  · unfold primeB
    rw [es_seq, h1]
    dsimp only
    rw [es_seq]
    have h2' : sForC 0 2000 (gpName 5) cellB [.val .drw, .val (.int turn), .val (.int found), .val (.int prime), .val (.int (48271 * turn + prime.fdiv 53)), c] S = _ := h2
    rw [h2']
    dsimp only
    rw [h3]
  · have e1 : (b' ^ 5).fmod prime = (b' ^ 5) % prime := Int.fmod_eq_emod_of_nonneg _ (by omega)
    have h1 := Int.emod_nonneg (b' ^ 5) hpz
    rw [e1]
    omega
theorem blended_ok {n : Nat} {S : DS} (h : DOk (n + 1) S) : ∃ z, f__law_blended [.drw] S = .ok (.int z) { S with turn := S.turn + 1 } ∧ 0 ≤ z ∧ DOk n { S with turn := S.turn + 1 } := by
  have ht := h.turn
  have h1 : DOk n { S with turn := S.turn + 1 } := ⟨h.rest, h.great, h.cells, h.few, by show 0 ≤ S.turn + 1 ∧ S.turn + 1 + n ≤ 2 ^ 40; omega⟩
  have hT : 0 ≤ S.turn + 1 ∧ S.turn + 1 ≤ 2 ^ 40 := by omega
  generalize hS' : ({ S with turn := S.turn + 1 } : DS) = S' at h1
  have e0 : mTwo (mVal (bn2 (mSt .turn 0) (ret (.int 1)) fun x y => lft (dAdd x y))) (mVal (ret (.int 0))) 1 2 [.val .drw, .no, .no, .no, .no, .no] S = .nx [.val .drw, .val (.int (S.turn + 1)), .val (.int 0), .no, .no, .no] S := by
    simp [StK.get]
  have e1 : sPutSt .turn 0 (mVar 1) [.val .drw, .val (.int (S.turn + 1)), .val (.int 0), .no, .no, .no] S = .nx [.val .drw, .val (.int (S.turn + 1)), .val (.int 0), .no, .no, .no] S' := by
    rw [← hS']
    simp [StK.put]
  obtain ⟨f1, b1, c1, p1, q1, n1⟩ := prime_step (turn := S.turn + 1) (found := 0) (prime := 2147483579) (b := .no) (c := .no) (p0 := .no) h1 hT (by decide) (by decide) (fun z => z)
  obtain ⟨f2, b2, c2, p2, q2, n2⟩ := prime_step (turn := S.turn + 1) (found := f1) (prime := 2147483629) (b := .val (.int b1)) (c := c1) (p0 := .no) h1 hT q1 (by decide) n1
  obtain ⟨f3, b3, c3, p3, q3, n3⟩ := prime_step (turn := S.turn + 1) (found := f2) (prime := 2147483563) (b := .val (.int b2)) (c := c2) (p0 := .no) h1 hT q2 (by decide) n2
  refine ⟨f3, ?_, q3, h1⟩
  refine runFn_rt (ρ := [.val .drw, .no, .no, .no, .no, .no]) rfl ?_
  unfold primeB cellB at p1 p2 p3
  unfold b__law_blended
  rw [es_seq, e0]
  dsimp only
  rw [es_seq, e1]
  dsimp only
  rw [es_seq]
  have el : bnd (mLst (mCons (ret (.int 2147483579)) (mCons (ret (.int 2147483629)) (mCons (ret (.int 2147483563)) (ret []))))) asL [.val .drw, .val (.int (S.turn + 1)), .val (.int 0), .no, .no, .no] S' = .ok [.int 2147483579, .int 2147483629, .int 2147483563] S' := rfl
  rw [es_for, el]
  dsimp only
  have g1 : gpName 3 (.int 2147483579) [.val .drw, .val (.int (S.turn + 1)), .val (.int 0), .no, .no, .no] = some [.val .drw, .val (.int (S.turn + 1)), .val (.int 0), .val (.int 2147483579), .no, .no] := rfl
  have g2 : gpName 3 (.int 2147483629) [.val .drw, .val (.int (S.turn + 1)), .val (.int f1), .val (.int 2147483579), .val (.int b1), c1] = some [.val .drw, .val (.int (S.turn + 1)), .val (.int f1), .val (.int 2147483629), .val (.int b1), c1] := rfl
  have g3 : gpName 3 (.int 2147483563) [.val .drw, .val (.int (S.turn + 1)), .val (.int f2), .val (.int 2147483629), .val (.int b2), c2] = some [.val .drw, .val (.int (S.turn + 1)), .val (.int f2), .val (.int 2147483563), .val (.int b2), c2] := rfl
  unfold forLoop
  rw [g1]
  dsimp only
  rw [p1]
  dsimp only
  unfold forLoop
  rw [g2]
  dsimp only
  rw [p2]
  dsimp only
  unfold forLoop
  rw [g3]
  dsimp only
  rw [p3]
  dsimp only
  unfold forLoop
  dsimp only
  rw [← hS']
  simp
/-- THE DRAW -/
theorem draw_ok {n : Nat} {S : DS} {room : Int} (h : DOk (n + 1) S) (hr : 0 < room) (hr2 : room < 1073741824) : ∃ r S', f__law_draw [.drw, .int room] S = .ok (.int r) S' ∧ 0 ≤ r ∧ r < room ∧ DOk n S' := by
  -- the rest is there
  have key : ∃ S1, (sIf (bn2 (mSt .rest 0) (ret (.int 0)) fun x y => lft (dEq x y)) (sPutSt .rest 0 (mIf (mGreatNe 0) (mGreatPop 0) (mCall 1 (mCons (mVar 0) (ret [])) f__law_blended))) sNil) [.val .drw, .val (.int room), .no] S = .nx [.val .drw, .val (.int room), .no] S1 ∧ DOk n S1 := by
    by_cases h0 : S.rest = 0
    · cases hg : S.great with
      | nil =>
        obtain ⟨z, e, hz, h2⟩ := blended_ok h
        refine ⟨{ S with turn := S.turn + 1, rest := z }, ?_, ⟨hz, h2.great, h2.cells, h2.few, h2.turn⟩⟩
        simp [StK.get, h0, hg, e, StK.put]
      | cons z l =>
        refine ⟨{ S with great := l, rest := z }, ?_, ?_⟩
        · simp [StK.get, h0, hg, StK.put, mGreatPop]
        · have hz := h.great z (by rw [hg]; exact List.mem_cons_self)
          exact ⟨hz, fun y hy => h.great y (by rw [hg]; exact List.mem_cons_of_mem _ hy), h.cells, h.few, (h.less (Nat.le_succ n)).turn⟩
    · exact ⟨S, by simp [StK.get, h0], h.less (Nat.le_succ n)⟩
  obtain ⟨S1, e1, h1⟩ := key
  have hm : S1.rest.fmod room = S1.rest % room := Int.fmod_eq_emod_of_nonneg _ (by omega)
  have hd : S1.rest.fdiv room = S1.rest / room := Int.fdiv_eq_ediv_of_nonneg _ (by omega)
  have hne : room ≠ 0 := by omega
  have hna : room.natAbs < 1073741824 := by omega
  refine ⟨S1.rest % room, { S1 with rest := S1.rest / room }, ?_, Int.emod_nonneg _ hne, Int.emod_lt_of_pos _ hr, ⟨Int.ediv_nonneg h1.rest (by omega), h1.great, h1.cells, h1.few, h1.turn⟩⟩
  refine runFn_rt (ρ := [.val .drw, .val (.int room), .no]) rfl ?_
  unfold b__law_draw
  rw [es_seq, e1]
  simp [StK.get, StK.put, hne, hna, hm, hd]
/-- a thing picked -/
theorem pick_ok {n : Nat} {S : DS} {some : List D} (h : DOk (n + 1) S) (hl : some ≠ []) (hl2 : some.length < 1073741824) : ∃ d S', d ∈ some ∧ f__law_pick [.drw, .lst some] S = .ok d S' ∧ DOk n S' := by
  have hpos : 0 < some.length := List.length_pos_iff.mpr hl
  obtain ⟨r, S', e, h1, h2, h3⟩ := draw_ok (room := (some.length : Int)) h (by omega) (by omega)
  obtain ⟨k, rfl⟩ : ∃ k : Nat, r = (k : Int) := ⟨r.toNat, by omega⟩
  have hk : k < some.length := by omega
  refine ⟨some[k], S', List.getElem_mem hk, ?_, h3⟩
  refine runFn_rt (ρ := [.val .drw, .val (.lst some)]) rfl ?_
  unfold b__law_pick
  have ei : dIx (.lst some) (.int (k : Int)) = Option.some some[k] := by
    show atI some (k : Int) = _
    have := atI_nat (xs := some) (j := k) (v := some[k]) (List.getElem?_eq_getElem hk)
    exact this
  simp [dLen, e, ei]
end Pf
end

section
set_option Elab.async false
set_option linter.all false
set_option maxRecDepth 100000
namespace Pf
open PySem PySem.Spec PyProof.Rows L2 PySem.W
variable [TabsC]

/-! ### sorted(a list or a tuple) -/
section
variable {prog : Program} {w : World} {A : Around} {E : Value → Shared → Prop} {s : Shared}
theorem tup_collect {l : Addr} {vs : List Value} {Q : List Value → Shared → Prop} (hl : s.heap.IsTuple l vs.toArray) (hsz : vs.length ≤ sizeLine)
    (h : Q vs { s with heap := (s.heap.push (seqObj "list" #[] 0)).update s.heap.objs.size (Obj.mapSeq (· ++ vs.toArray)) }) : wpAny (model prog w) A (collect (.ref l)) Q E s := by
  obtain ⟨ob, e1, ec, n, e2⟩ := id hl
  unfold collect
  refine wpAny_bind (wpAny_runValue (codeAny_builtin entry_proto_collect' ?_))
  refine wpAny_bind (wpAny_newList (wpAny_pure ⟨Code.quiet_builtin _ (by decide +kernel), codeAny_builtin entry_list_iadd' ?_⟩))
  show wpAny _ _ (Builtin.List.listExtendWith _ (.ref l) _) _ _ { s with heap := s.heap.push (seqObj "list" #[] 0) }
  unfold Builtin.List.listExtendWith
  have q1 : (s.heap.push (seqObj "list" #[] 0)).get? l = some ob := Heap.get?_push_of_some _ e1
  have q2 : (s.heap.push (seqObj "list" #[] 0)).get? s.heap.objs.size = some (seqObj "list" #[] 0) := Heap.get?_push_size _ rfl
  refine wpAny_bind (wpAny_typeOf (T := "tuple") ⟨ob, q1, ec⟩ ?_)
  refine L2.wp_if_pos (by rw [show (Value.type "tuple" == Value.type "tuple") = true from rfl]; simp) ?_
  refine wpAny_bind (listItems_at q1 e2 (wpAny_bind (listItems_at (xs := #[]) (n := 0) q2 rfl ?_)))
  refine L2.wp_if_neg (by simp) ?_
  refine wpAny_bind (listUpdate_at (xs := #[]) (n := 0) q2 rfl ?_ (Nat.zero_le _) (by simp only [Array.size_append, List.size_toArray, List.length_nil]; omega))
  refine wpAny_pure ?_
  refine wpAny_bind (wpAny_load (get?_update_seq q2 _) ?_)
  have ez : ((#[] : Array Value) ++ vs.toArray).toList = vs := by simp
  show wpAny _ _ (pure ((#[] : Array Value) ++ vs.toArray).toList) Q E _
  rw [ez]
  exact wpAny_pure h
/-- sorted(x), told from what x's items are -/
theorem sorted_got {a : Addr} {β : Type} {enc : β → PyData} {R : Value → β → Prop} {Q : Value → Shared → Prop}
    (hc : ∀ (Q' : List Value → Shared → Prop), (∀ (vs : List Value) (bs : List β) (s1 : Shared), EachIs R vs bs → EachIs (fun v b => ∃ as, Reads s1.heap v (enc b) as) vs bs → AllAlike (bs.map enc) → Sortable (bs.map enc) → bs.length ≤ sizeLine → (∀ b, b ∈ bs → A.units + 3 + (enc b).depth < cLine) →
        (∀ out p h', out.length = bs.length → EachIs R out (bs.mergeSort (dataLe false enc)) → s.heap.objs.size ≤ p → (∀ b o, s.heap.get? b = some o → h'.get? b = some o) → (∃ n, h'.get? p = some (seqObj "list" out.toArray n)) → Q (.ref p) { s1 with heap := h' }) →
        (∀ b o, s.heap.get? b = some o → s1.heap.get? b = some o) → s.heap.objs.size ≤ s1.heap.objs.size → Q' vs s1) → wpAny (model prog w) A.in1 (collect (.ref a)) Q' E s) :
    wpAny (model prog w) A (call (.builtin "sorted") [.ref a]) Q E s := by
  refine Calls.call_function_entry kind_sorted plain_sorted entry_sorted (args_sorted1 _) ?_
  unfold Builtin.«sorted»
  refine wpAny_bind (m := checkCount "sorted" 1 1 _) (wpAny_pure ?_)
  refine wpAny_bind (hc _ fun vs bs s1 e er hal hk hL hu fin keep hsz => ?_)
  have hv : vs.length ≤ sizeLine := by rw [e.length]; exact hL
  refine wpAny_bind (wpAny_newList ?_ hv)
  have ho : (s1.heap.push (seqObj "list" vs.toArray 0)).get? s1.heap.objs.size = some (seqObj "list" vs.toArray 0) := Heap.get?_push_size _ rfl
  have kp : ∀ b o, s1.heap.get? b = some o → b ≠ s1.heap.objs.size ∧ (s1.heap.push (seqObj "list" vs.toArray 0)).get? b = some o := fun b o z => ⟨Nat.ne_of_lt (Heap.lt_size z), Heap.get?_push_of_some _ z⟩
  have er1 : EachIs (fun v b => ∃ as, Reads (sortingHeap (s1.heap.push (seqObj "list" vs.toArray 0)) s1.heap.objs.size vs) v (enc b) as) vs bs :=
    er.mono fun _ _ ⟨as, r⟩ => ⟨as, PyProof.Rows.Reads.keeps (fun b o z => sortingHeap_old (kp b o z).1 (kp b o z).2) r⟩
  have S : SortsAt prog w A.in1.in1 { s1 with heap := sortingHeap (s1.heap.push (seqObj "list" vs.toArray 0)) s1.heap.objs.size vs } (dataKind (sortingHeap (s1.heap.push (seqObj "list" vs.toArray 0)) s1.heap.objs.size vs) (bs.map enc)) vs :=
    SortsAt.data (s := { s1 with heap := sortingHeap (s1.heap.push (seqObj "list" vs.toArray 0)) s1.heap.objs.size vs }) (each_map (R := fun v d => ∃ as, Reads _ v d as) enc er1) hal hk (fun d hd => by
      obtain ⟨b, hb, rfl⟩ := List.mem_map.mp hd
      have := hu b hb
      have e2 : A.in1.in1.units = A.units + 2 := rfl
      omega)
  refine wpAny_bind (wpAny_holding (wpAny_call_entry slot_list_sort ⟨_, ho, rfl⟩ entry_list_sort (list_sort_vals (s := { s1 with heap := s1.heap.push (seqObj "list" vs.toArray 0) }) ho S hv ⟨_, rfl, ?_⟩) (args_list_sort _)))
  obtain ⟨n, hn⟩ := sortedHeap_at (vs := vs) (out := (sortVals (dataKind (sortingHeap (s1.heap.push (seqObj "list" vs.toArray 0)) s1.heap.objs.size vs) (bs.map enc)) false vs vs).toArray) ho
  refine wpAny_pure ⟨_, rfl, fin _ _ _ (by rw [sortVals_length false rfl]; exact e.length) (sortVals_data false e er1 hal) hsz (fun b o z => ?_) ⟨n, hn⟩⟩
  have k1 := kp b o (keep b o z)
  rw [sortedHeap_old k1.1 (Heap.lt_size k1.2)]
  exact k1.2
end

def rSortD (K : PySem.W.Frag) : List V → Hp → VK → Prop := fun vs H Q => ∃ (a : Addr) (ps : List (V × PyData)), vs = [V.ref a] ∧ (SqL K H a (ps.map (·.1)) ∨ SqT K H a (ps.map (·.1))) ∧ (∀ p ∈ ps, Dp K H p.1 p.2) ∧ AllAlike (ps.map (·.2)) ∧ Sortable (ps.map (·.2)) ∧ (∀ p ∈ ps, p.2.depth ≤ 64) ∧
  ∀ q, H q = none → Q (.ref q) (upd H q (.lst ((ps.mergeSort (dataLe false (·.2))).map (·.1))))
theorem each_pairs {K : PySem.W.Frag} {H : Hp} : ∀ {ps : List (V × PyData)} {us : List Value}, Vals (ps.map (·.1)) us → EachIs (fun u (p : V × PyData) => RelV p.1 u) us ps
  | [], _, .nil => .nil
  | p :: ps, _, .cons r t => .cons r (each_pairs (K := K) (H := H) t)
theorem pairs_vals : ∀ {ps : List (V × PyData)} {us : List Value}, EachIs (fun u (p : V × PyData) => RelV p.1 u) us ps → Vals (ps.map (·.1)) us
  | _, _, .nil => .nil
  | _, _, .cons r t => .cons r (pairs_vals t)
theorem each_and {α β : Type} {R : α → β → Prop} {P : β → Prop} : ∀ {as : List α} {bs : List β}, EachIs R as bs → (∀ b ∈ bs, P b) → EachIs (fun a b => R a b ∧ P b) as bs
  | _, _, .nil, _ => .nil
  | _, _, .cons r t, h => .cons ⟨r, h _ List.mem_cons_self⟩ (each_and t fun b hb => h b (List.mem_cons_of_mem _ hb))
section
variable {X : Cx}
theorem cr_sortD (hu : X.A.units + 70 < cLine) : CallR X (.builtin "sorted") (rSortD X.K) := by
  intro pins s σ H vs us Q I r h
  obtain ⟨a, ps, rfl, hs, hd, hal, hk, hdep, q⟩ := h
  rw [Vals.ref1 r]
  refine sorted_got (R := fun u (p : V × PyData) => RelV p.1 u) (enc := fun p : V × PyData => p.2) fun Q' kq => ?_
  have main : ∀ (its : List Value) (s1 : Shared), Vals (ps.map (·.1)) its → its.length ≤ sizeLine → (∀ b o, s.heap.get? b = some o → s1.heap.get? b = some o) → s.heap.objs.size ≤ s1.heap.objs.size → (∃ h' tk, s1 = { s with heap := h', toks := tk }) → Q' its s1 := by
    intro its s1 rv hz keep hsz ⟨h1, tk, e1⟩
    have e := each_pairs (K := X.K) (H := H) rv
    have hl : ps.length ≤ sizeLine := by rw [← List.length_map (f := (·.1)), rv.length]; exact hz
    refine kq its ps s1 e ((each_and e hd).mono fun u p ⟨ru, dp⟩ => ?er) hal hk hl (fun p hp => by have := hdep p hp; omega) (fun out p h' hlen eo hp old ⟨n, hn⟩ => ?fin) keep hsz
    case er =>
      obtain ⟨as, rd⟩ := Dp.reads I p.2 p.1 u dp ru
      exact ⟨as, PyProof.Rows.Reads.keeps (fun b o z => keep b o z) rd⟩
    case fin =>
      have ev := pairs_vals eo
      have hn0 : H p = none := I.hok.fresh hp
      subst e1
      refine ⟨.ref p, upd H p (.lst ((ps.mergeSort (dataLe false (·.2))).map (·.1))), I.laid (t' := tk) (fun b o z => old b o z) hp ⟨?_, out, n, ev, hn⟩, rfl, q p hn0⟩
      rw [List.length_map, List.length_mergeSort]
      exact hl
  rcases hs with hs | hs
  · obtain ⟨its, rv, pl, hz⟩ := I.list hs
    have hz' : its.length ≤ sizeLine := by rw [← rv.length]; exact hz
    refine collect_list pl.isList ?_ hz'
    refine main its _ rv hz' (fun b o z => ?_) ?_ ⟨_, _, rfl⟩
    · rw [Heap.get?_update_ne _ _ _ _ (Nat.ne_of_lt (Heap.lt_size z))]
      exact Heap.get?_push_of_some _ z
    · show s.heap.objs.size ≤ ((s.heap.push _).update _ _).objs.size
      rw [Heap.size_update, Heap.size_push]
      exact Nat.le_succ _
  · obtain ⟨its, rv, pl, hz⟩ := I.tuple hs
    have hz' : its.length ≤ sizeLine := by rw [← rv.length]; exact hz
    refine tup_collect (show s.heap.IsTuple a its.toArray from pl) hz' ?_
    refine main its _ rv hz' (fun b o z => ?_) ?_ ⟨_, _, rfl⟩
    · rw [Heap.get?_update_ne _ _ _ _ (Nat.ne_of_lt (Heap.lt_size z))]
      exact Heap.get?_push_of_some _ z
    · show s.heap.objs.size ≤ ((s.heap.push _).update _ _).objs.size
      rw [Heap.size_update, Heap.size_push]
      exact Nat.le_succ _
end

/-! ### the mirror -/
def pd (d : D) : PyData := (toP d).getD .none
def leD (a b : D) : Bool := dataLe false pd a b
def sortD (ds : List D) : List D := ds.mergeSort leD
def isTupD : D → Bool
  | .tup (_ :: _) => true
  | _ => false
def noTupD : D → Bool
  | .tup _ => false
  | .non => false
  | _ => true
def sortOk (ds : List D) : Bool := ds.all (fun d => (toP d).isSome && decide ((pd d).depth ≤ 64)) && ds.all (fun a => ds.all fun b => alike (pd a) (pd b)) && (ds.all isTupD || ds.all noTupD)
def dSorted : D → Option D
  | .lst ds => if sortOk ds = true then some (.lst (sortD ds)) else none
  | .tup ds => if sortOk ds = true then some (.lst (sortD ds)) else none
  | _ => none
section
variable {X : Cx} {E : XK} {a : Expr} {m : M D} {p1 pos : Pos} {k : Nat}
theorem sort_rep {K : PySem.W.Frag} {mg : Str → Option Value} {st : StA} {H : Hp} {A : Addr → Prop} {vs : List V} {ds : List D} (r : Reps K mg st H A vs ds) (h : sortOk ds = true) :
    ∃ ps : List (V × PyData), ps.map (·.1) = vs ∧ (∀ p ∈ ps, Dp K H p.1 p.2) ∧ AllAlike (ps.map (·.2)) ∧ Sortable (ps.map (·.2)) ∧ (∀ p ∈ ps, p.2.depth ≤ 64) ∧ Reps K mg st H A ((ps.mergeSort (dataLe false (·.2))).map (·.1)) (sortD ds) := by
  -- values with their data
  have zip : ∀ {vs : List V} {ds : List D}, Reps K mg st H A vs ds → ∃ zs : List (V × D), zs.map (·.1) = vs ∧ zs.map (·.2) = ds ∧ ∀ z ∈ zs, Rep K mg st H A z.1 z.2 := fun {vs ds} r => by
    induction r using Reps.rec (motive_1 := fun _ _ _ => True) with
    | nil => exact ⟨[], rfl, rfl, fun _ h => by cases h⟩
    | cons q t _ ih =>
      obtain ⟨zs, e1, e2, h3⟩ := ih
      exact ⟨(_, _) :: zs, by rw [List.map_cons, e1], by rw [List.map_cons, e2], fun z hz => by
        rcases List.mem_cons.mp hz with e | hz
        · rw [e]; exact q
        · exact h3 z hz⟩
    | _ => trivial
  obtain ⟨zs, e1, e2, h3⟩ := zip r
  unfold sortOk at h
  simp only [Bool.and_eq_true, List.all_eq_true, decide_eq_true_eq, Bool.or_eq_true] at h
  obtain ⟨⟨h4, h5⟩, h6⟩ := h
  have mem : ∀ z ∈ zs, z.2 ∈ ds := fun z hz => by rw [← e2]; exact List.mem_map.mpr ⟨z, hz, rfl⟩
  refine ⟨zs.map fun z => (z.1, pd z.2), ?_, fun p hp => ?_, fun d hd d' hd' => ?_, ?_, fun p hp => ?_, ?_⟩
  · rw [List.map_map, ← e1]; rfl
  · obtain ⟨z, hz, rfl⟩ := List.mem_map.mp hp
    have := (h4 _ (mem z hz)).1
    obtain ⟨pp, hpp⟩ := Option.isSome_iff_exists.mp this
    have e : pd z.2 = pp := by unfold pd; rw [hpp]; rfl
    show Dp K H z.1 (pd z.2)
    rw [e]
    exact (h3 z hz).dp hpp
  · rw [List.map_map] at hd hd'
    obtain ⟨z, hz, rfl⟩ := List.mem_map.mp hd
    obtain ⟨z', hz', rfl⟩ := List.mem_map.mp hd'
    exact h5 _ (mem z hz) _ (mem z' hz')
  · rw [List.map_map]
    rcases h6 with h6 | h6
    · refine .inl fun d hd => ?_
      obtain ⟨z, hz, rfl⟩ := List.mem_map.mp hd
      have t := h6 _ (mem z hz)
      have so := (h4 _ (mem z hz)).1
      show ∃ x r, pd z.2 = .tuple (x :: r)
      generalize z.2 = d at t so
      unfold isTupD at t
      split at t <;> try (cases t; done)
      rename_i x xs
      unfold pd
      simp only [toP] at so ⊢
      obtain ⟨pp, hpp⟩ := Option.isSome_iff_exists.mp so
      rw [Option.map_eq_some_iff] at hpp
      obtain ⟨ps, e3, rfl⟩ := hpp
      rw [e3]
      simp only [toPs] at e3
      split at e3
      · cases e3; exact ⟨_, _, rfl⟩
      · cases e3
    · refine .inr fun d hd => ?_
      obtain ⟨z, hz, rfl⟩ := List.mem_map.mp hd
      have t := h6 _ (mem z hz)
      have so := (h4 _ (mem z hz)).1
      show pd z.2 ≠ .none ∧ ∀ xs, pd z.2 ≠ .tuple xs
      generalize z.2 = d at t so
      unfold noTupD at t
      obtain ⟨pp, hpp⟩ := Option.isSome_iff_exists.mp so
      have e : pd d = pp := by unfold pd; rw [hpp]; rfl
      rw [e]
      cases d <;> simp only [toP] at hpp <;> first | (cases t; done) | (cases hpp; exact ⟨(fun z => by cases z), fun _ z => by cases z⟩) | (cases hpp; done) | skip
      rw [Option.map_eq_some_iff] at hpp
      obtain ⟨ps, e3, rfl⟩ := hpp
      exact ⟨(fun z => by cases z), fun _ z => by cases z⟩
  · obtain ⟨z, hz, rfl⟩ := List.mem_map.mp hp
    exact (h4 _ (mem z hz)).2
  · have e3 : (zs.map fun z => (z.1, pd z.2)).mergeSort (dataLe false (·.2)) = (zs.mergeSort (fun a b => dataLe false (fun z : V × D => pd z.2) a b)).map fun z => (z.1, pd z.2) :=
      (List.map_mergeSort (r := fun a b => dataLe false (fun z : V × D => pd z.2) a b) (s := dataLe false (·.2)) (f := fun z : V × D => (z.1, pd z.2)) (l := zs) fun a _ b _ => rfl).symm
    have e4 : sortD ds = (zs.mergeSort (fun a b => dataLe false (fun z : V × D => pd z.2) a b)).map (·.2) := by
      unfold sortD
      rw [← e2]
      exact (List.map_mergeSort (r := fun a b => dataLe false (fun z : V × D => pd z.2) a b) (s := leD) (f := fun z : V × D => z.2) (l := zs) fun a _ b _ => rfl).symm
    rw [e3, e4, List.map_map]
    have hm : ∀ z ∈ zs.mergeSort (fun a b => dataLe false (fun z : V × D => pd z.2) a b), Rep K mg st H A z.1 z.2 := fun z hz => h3 z (List.mem_mergeSort.mp hz)
    generalize zs.mergeSort (fun a b => dataLe false (fun z : V × D => pd z.2) a b) = ys at hm
    induction ys with
    | nil => exact .nil
    | cons y ys ih => exact .cons (hm y List.mem_cons_self) (ih fun z hz => hm z (List.mem_cons_of_mem _ hz))
theorem re_sorted (c : Ctx X E k) (hg : Gl X "sorted") (hm : X.mg "sorted" = none) (ha : RQ X E a m) (hs : starEach [a] X.env = (false, eval a X.env) :: starEach [] X.env := by rfl) : RE X E (.Call (.Name "sorted" p1) [a] [] pos) (mB1 m dSorted) :=
  re_b1 (fun O st σ ρ S H x a d Q s ra e g => by
    unfold dSorted at e
    split at e
    · split at e <;> try (cases e; done)
      rename_i ho
      cases e
      obtain ⟨p, vs, rfl, h1, _, r1⟩ := q_lst ra
      obtain ⟨ps, e1, h2, h3, h4, h5, r2⟩ := sort_rep r1 ho
      exact ⟨p, ps, rfl, .inl (by rw [e1]; exact SqL.of h1), h2, h3, h4, h5, fun q hq => g _ _ (FrE.laid hq) (s.state.laid hq) (s.mkL r2 hq)⟩
    · split at e <;> try (cases e; done)
      rename_i ho
      cases e
      obtain ⟨p, vs, rfl, h1, r1⟩ := q_tup ra
      obtain ⟨ps, e1, h2, h3, h4, h5, r2⟩ := sort_rep r1 ho
      exact ⟨p, ps, rfl, .inr (by rw [e1]; exact h1), h2, h3, h4, h5, fun q hq => g _ _ (FrE.laid hq) (s.state.laid hq) (s.mkL r2 hq)⟩
    · cases e) (cr_sortD (by have := c.room.un; omega)) hg hm PyProof.Rows.boot_sorted ha (hs := hs)
end
end Pf
end

section
set_option Elab.async false
set_option linter.all false
set_option maxRecDepth 100000
namespace Pf
open L2 PyProof.Rows PySem PySem.Spec
/-! ### tables of sets, of masks up to 8191: the round of x -> 5 x + 1 -/
def tourB (m : Nat) : Nat → Nat → Nat → Nat × Nat
  | 0, x, seen => (x, seen)
  | n + 1, x, seen => tourB m n ((x * 5 + 1) % (m + 1)) (seen ||| 2 ^ x)
theorem lcg_shift (m x : Nat) : ∀ k, lcgI m ((x * 5 + 1) % (m + 1)) k = lcgI m x (k + 1)
  | 0 => rfl
  | k + 1 => by
    show (lcgI m _ k * 5 + 1) % (m + 1) = (lcgI m x (k + 1) * 5 + 1) % (m + 1)
    rw [lcg_shift m x k]
theorem tourB_end (m : Nat) : ∀ (n x seen : Nat), (tourB m n x seen).1 = lcgI m x n
  | 0, _, _ => rfl
  | n + 1, x, seen => by
    rw [tourB, tourB_end m n, lcg_shift]
theorem tourB_bit (m j : Nat) : ∀ (n x seen : Nat), (tourB m n x seen).2.testBit j = true → seen.testBit j = true ∨ ∃ k, k < n ∧ lcgI m x k = j
  | 0, _, _, h => .inl h
  | n + 1, x, seen, h => by
    rw [tourB] at h
    rcases tourB_bit m j n _ _ h with g | ⟨k, hk, e⟩
    · rw [Nat.testBit_or, Bool.or_eq_true, Nat.testBit_two_pow, decide_eq_true_eq] at g
      rcases g with g | g
      · exact .inl g
      · exact .inr ⟨0, Nat.succ_pos n, g⟩
    · exact .inr ⟨k + 1, Nat.succ_lt_succ hk, by rw [← lcg_shift]; exact e⟩
structure Msk (m : Nat) : Prop where
  full : tourB m (m + 1) 0 0 = (0, 2 ^ (m + 1) - 1)
  odd : m % 2 = 1
  bnd : m ≤ 8191
theorem msk7 : Msk 7 := ⟨by decide +kernel, rfl, by decide⟩
theorem msk31 : Msk 31 := ⟨by decide +kernel, rfl, by decide⟩
theorem msk127 : Msk 127 := ⟨by decide +kernel, rfl, by decide⟩
theorem msk511 : Msk 511 := ⟨by decide +kernel, rfl, by decide⟩
theorem msk2047 : Msk 2047 := ⟨by decide +kernel, rfl, by decide⟩
theorem msk8191 : Msk 8191 := ⟨by decide +kernel, rfl, by decide⟩
theorem Msk.hit {m j : Nat} (M : Msk m) (hj : j ≤ m) : ∃ k, k ≤ m ∧ lcgI m 0 k = j := by
  have b := tourB_bit m j (m + 1) 0 0
  rw [M.full] at b
  rcases b (by rw [Nat.testBit_two_pow_sub_one]; exact decide_eq_true (Nat.lt_succ_of_le hj)) with g | ⟨k, hk, e⟩
  · rw [Nat.zero_testBit] at g; cases g
  · exact ⟨k, Nat.le_of_lt_succ hk, e⟩
theorem Msk.again {m : Nat} (M : Msk m) : ∀ k, lcgI m 0 (m + 1 + k) = lcgI m 0 k
  | 0 => by
    have e := tourB_end m (m + 1) 0 0
    rw [M.full] at e
    exact e.symm
  | k + 1 => congrArg (fun x => (x * 5 + 1) % (m + 1)) (M.again k)
theorem lcg_from (m a : Nat) : ∀ k, lcgI m (lcgI m 0 a) k = lcgI m 0 (a + k)
  | 0 => rfl
  | k + 1 => congrArg (fun x => (x * 5 + 1) % (m + 1)) (lcg_from m a k)
theorem Msk.reach {m i j : Nat} (M : Msk m) (hi : i ≤ m) (hj : j ≤ m) : ∃ k, k ≤ m ∧ lcgI m i k = j := by
  obtain ⟨a, ha, rfl⟩ := M.hit hi
  obtain ⟨b, hb, rfl⟩ := M.hit hj
  by_cases c : a ≤ b
  · exact ⟨b - a, Nat.le_trans (Nat.sub_le b a) hb, by rw [lcg_from, Nat.add_sub_cancel' c]⟩
  · refine ⟨m + 1 + b - a, by omega, ?_⟩
    rw [lcg_from, ← M.again b]
    congr 1
    omega
/-- every slot begins a run -/
theorem Msk.run {m j : Nat} (M : Msk m) (h : Int) (hj : j ≤ m) : ∃ n, n ≤ 12 + m ∧ runI m (SetTable.bits h) n = j := by
  obtain ⟨k, hk, e⟩ := M.reach (runI_le m (SetTable.bits h) 12) hj
  rw [← runI_tail (bits_lt h)] at e
  exact ⟨12 + k, Nat.add_le_add_left hk 12, e⟩
theorem way_in (m : Nat) (h : Int) (k : Nat) : way m h k ≤ m := by
  have b : SetTable.bits h % (m + 1) ≤ m := Nat.lt_succ_iff.mp (Nat.mod_lt _ (Nat.succ_pos m))
  obtain ⟨e1, e2, _⟩ := runEnd_bd b
  have q := nth_in k (runAt m (SetTable.bits h % (m + 1)) (SetTable.bits h)) (m := m) (by
    dsimp only [runAt]
    omega)
  exact Nat.le_trans (Nat.le_add_right _ _) q
theorem Msk.met {m j : Nat} (M : Msk m) (h : Int) (hj : j ≤ m) : ∃ k, k < 10 * SetTable.turns m ∧ way m h k = j := by
  obtain ⟨n, hn, e⟩ := M.run h hj
  obtain ⟨k, hk, e'⟩ := run_nth m (SetTable.bits h) n
  exact ⟨k, by unfold SetTable.turns; omega, (congrArg SetTable.Probe.j e').trans e⟩
/-! ### a table from which all is found again -/
structure Tb (t : SetTable) (hs : List Int) : Prop where
  up : Ris t.place.toList
  nod : t.dummies = #[]
  len : t.place.toList.length = hs.length
  msk : Msk t.mask
  top : ∀ x ∈ t.place.toList, x ≤ t.mask
  road : ∀ (i : Nat) (h : Int) (j : Nat), hs[i]? = some h → t.place.toList[i]? = some j → ∃ k, way t.mask h k = j ∧ ∀ q, q < k → way t.mask h q ∈ t.place.toList
section
variable {t : SetTable} {hs : List Int}
theorem Tb.open_ (T : Tb t hs) (hl : hs.length ≤ t.mask) (h : Int) : ∃ K, K < 10 * SetTable.turns t.mask ∧ ¬ way t.mask h K ∈ t.place.toList ∧ ∀ k, k < K → way t.mask h k ∈ t.place.toList := by
  obtain ⟨j, hj, hn⟩ := st_missing t.place.toList (t.mask + 1) (by rw [T.len]; exact Nat.lt_succ_of_le hl)
  obtain ⟨k, hk, e⟩ := T.msk.met h (Nat.le_of_lt_succ hj)
  obtain ⟨K, l1, l2, l3⟩ := st_least (p := fun q => ¬ way t.mask h q ∈ t.place.toList) k (fun z => hn (e ▸ z))
  exact ⟨K, Nat.lt_of_le_of_lt l1 hk, l2, fun q hq => Classical.not_not.mp (l3 q hq)⟩
theorem Tb.ahead (T : Tb t hs) {h : Int} {K i j : Nat} (free : ¬ way t.mask h K ∈ t.place.toList) (hi : hs[i]? = some h) (hj : t.place.toList[i]? = some j) : ∃ k, k < K ∧ way t.mask h k = j := by
  obtain ⟨k, e, all⟩ := T.road i h j hi hj
  by_cases c : k < K
  · exact ⟨k, c, e⟩
  · exfalso
    rcases Nat.eq_or_lt_of_le (Nat.le_of_not_lt c) with z | z
    · exact free (by rw [z, e]; exact List.mem_of_getElem? hj)
    · exact free (all K z)
/-- one more -/
theorem Tb.more (T : Tb t hs) {h : Int} {K : Nat} (free : ¬ way t.mask h K ∈ t.place.toList) (full : ∀ k, k < K → way t.mask h k ∈ t.place.toList) {p : Nat} (hp : SetTable.below t.place (way t.mask h K) = p) :
    p ≤ hs.length ∧ Tb (t.put (way t.mask h K)).1 (hs.take p ++ h :: hs.drop p) ∧ (t.put (way t.mask h K)).1.fill = hs.length + 1 := by
  have cut := (below_cut T.up (way t.mask h K)).1
  rw [hp, ← Array.length_toList, T.len] at cut
  have new : (t.put (way t.mask h K)).1.place.toList = t.place.toList.take p ++ way t.mask h K :: t.place.toList.drop p := by rw [put_place, hp]
  have cut' : p ≤ t.place.toList.length := by rw [T.len]; exact cut
  have none_ : (t.put (way t.mask h K)).1.dummies = #[] := put_dm T.nod _
  have len1 : (t.put (way t.mask h K)).1.place.toList.length = hs.length + 1 := by rw [new, len_ins _ cut', T.len]
  have keep : ∀ x, x ∈ t.place.toList → x ∈ (t.put (way t.mask h K)).1.place.toList := fun x hx => by rw [new, mem_ins]; exact .inr hx
  refine ⟨cut, ⟨?_, none_, by rw [len1, len_ins _ cut], T.msk, fun x hx => ?_, fun i h' j hi hj => ?_⟩, ?_⟩
  · refine ris_insert T.up fun e => free ?_
    rw [← Array.getElem?_toList] at e
    exact List.mem_of_getElem? e
  · rw [new, mem_ins] at hx
    rcases hx with e | hx
    · rw [e]; exact way_in _ _ _
    · exact T.top x hx
  · show ∃ k, way t.mask h' k = j ∧ _
    rw [tins_get hs cut] at hi
    rw [new, tins_get _ cut'] at hj
    have old : ∀ i0, hs[i0]? = some h' → t.place.toList[i0]? = some j → ∃ k, way t.mask h' k = j ∧ ∀ q, q < k → way t.mask h' q ∈ (t.put (way t.mask h K)).1.place.toList := fun i0 a b => by
      obtain ⟨k, e, all⟩ := T.road i0 h' j a b
      exact ⟨k, e, fun q hq => keep _ (all q hq)⟩
    rcases Nat.lt_trichotomy i p with c | c | c
    · rw [if_pos c] at hi hj
      exact old i hi hj
    · subst c
      rw [if_neg (Nat.lt_irrefl i), if_pos rfl] at hi hj
      cases hi; cases hj
      exact ⟨K, rfl, fun q hq => keep _ (full q hq)⟩
    · rw [if_neg (by omega), if_neg (by omega)] at hi hj
      exact old (i - 1) hi hj
  · show (t.put (way t.mask h K)).1.place.size + (t.put (way t.mask h K)).1.dummies.size = _
    rw [none_, ← Array.length_toList, len1]
    rfl
end
/-! ### all laid anew -/
theorem Msk.seat {m : Nat} (M : Msk m) (owner : Array (Option Nat)) (h : Int) {j : Nat} (hj : j ≤ m) (hf : oAt owner j = none) :
    ∃ K, SetTable.layClean.free m owner (SetTable.turns m) (SetTable.bits h % (m + 1)) (SetTable.bits h) = some (way m h K) ∧ oAt owner (way m h K) = none ∧ ∀ q, q < K → oAt owner (way m h q) ≠ none := by
  obtain ⟨n, hn, e⟩ := M.run h hj
  generalize ho : off m (SetTable.bits h % (m + 1)) (SetTable.bits h) n = o
  have at_o : way m h o = j := by
    rw [← ho]
    refine (congrArg SetTable.Probe.j (nth_off m n _ _)).trans ?_
    rw [itL_run]
    exact e
  obtain ⟨K, l1, l2, l3⟩ := st_least (p := fun q => oAt owner (way m h q) = none) o (by rw [at_o]; exact hf)
  refine ⟨K, free_spec m owner _ n _ _ K (by unfold SetTable.turns; omega) (by rw [ho]; exact l1) (fun q hq => ?_) (by rw [l2]; rfl), l2, l3⟩
  cases z : oAt owner (way m h q) with
  | none => exact (l3 q hq z).elim
  | some v => rfl
theorem Msk.sit {m : Nat} (M : Msk m) {done : List Int} {owner : Array (Option Nat)} (W : Own m done owner) (hl : done.length ≤ m) (h : Int) :
    ∃ s, SetTable.layClean.free m owner (SetTable.turns m) (SetTable.bits h % (m + 1)) (SetTable.bits h) = some s ∧ Own m (done ++ [h]) (owner.setIfInBounds s (some done.length)) := by
  obtain ⟨ps, pl, pin⟩ := W.ps
  obtain ⟨j0, b0, out⟩ := st_missing ps (m + 1) (by rw [pl]; exact Nat.lt_succ_of_le hl)
  have free0 : oAt owner j0 = none := Classical.byContradiction fun c => out (pin j0 (Nat.lt_succ_iff.mp b0) c)
  obtain ⟨K, e, fr, oc⟩ := M.seat owner h (Nat.lt_succ_iff.mp b0) free0
  have inb : way m h K < owner.size := by rw [W.sz]; exact Nat.lt_succ_of_le (way_in m h K)
  have mine := oAt_set_self (some done.length) inb
  have other : ∀ i, oAt owner i ≠ none → oAt (owner.setIfInBounds (way m h K) (some done.length)) i = oAt owner i := fun i hi => oAt_set_ne _ fun c => hi (c ▸ fr)
  have occ : ∀ i, oAt owner i ≠ none → oAt (owner.setIfInBounds (way m h K) (some done.length)) i ≠ none := fun i hi => by rw [other i hi]; exact hi
  refine ⟨_, e, (Array.size_setIfInBounds ..).trans W.sz, fun j k hj ej => ?_, fun k hk => ?_, way m h K :: ps, ?_, fun j hj nj => ?_⟩
  · by_cases c : j = way m h K
    · rw [c, mine] at ej
      cases ej
      exact ⟨h, K, List.getElem?_concat_length, c.symm, fun q hq => occ _ (oc q hq)⟩
    · rw [oAt_set_ne _ c] at ej
      obtain ⟨h', k', x1, x2, x3⟩ := W.at_ j k hj ej
      have lt := (List.getElem?_eq_some_iff.mp x1).1
      exact ⟨h', k', by rw [List.getElem?_append_left lt, x1], x2, fun q hq => occ _ (x3 q hq)⟩
  · rcases Nat.lt_or_ge k done.length with c | c
    · obtain ⟨j, hj, ej⟩ := W.all k c
      exact ⟨j, hj, by rw [other j (by rw [ej]; exact Option.some_ne_none k)]; exact ej⟩
    · rw [List.length_append, List.length_cons, List.length_nil] at hk
      have : k = done.length := by omega
      exact ⟨way m h K, way_in m h K, this ▸ mine⟩
  · rw [List.length_cons, pl, List.length_append]; rfl
  · by_cases c : j = way m h K
    · rw [c]; exact .head _
    · rw [oAt_set_ne _ c] at nj
      exact .tail _ (pin j hj nj)
theorem Msk.seats {m : Nat} (M : Msk m) : ∀ (todo done : List Int) (owner : Array (Option Nat)), Own m done owner → done.length + todo.length ≤ m →
    ∃ o2, todo.foldl (stepF m) (some (owner, done.length)) = some (o2, done.length + todo.length) ∧ Own m (done ++ todo) o2
  | [], done, owner, W, _ => ⟨owner, rfl, by rw [List.append_nil]; exact W⟩
  | h :: todo, done, owner, W, hl => by
    rw [List.length_cons] at hl
    obtain ⟨j, e, W1⟩ := M.sit W (by omega) h
    have el : (done ++ [h]).length = done.length + 1 := List.length_append
    obtain ⟨o2, f, W2⟩ := M.seats todo (done ++ [h]) _ W1 (by rw [el]; omega)
    rw [List.append_assoc] at W2
    rw [el] at f
    refine ⟨o2, ?_, W2⟩
    rw [List.foldl_cons, stepF_some e, f, List.length_cons]
    congr 2
    omega
theorem Tb.anew (t : SetTable) {hs : Array Int} {wanted m : Nat} (hw : SetTable.sizeAbove wanted = m + 1) (M : Msk m) (hn : hs.size ≤ m) :
    ∃ t' order, t.relaid hs wanted = some (t', order) ∧ order.toList.Perm (List.range hs.size) ∧ Tb t' (order.toList.map fun i => hs.getD i 0) ∧ t'.mask = m ∧ t'.led = t.led ∧ t'.plain = t.plain := by
  obtain ⟨owner, f, W⟩ := M.seats hs.toList [] _ (Own.init m) (by rw [List.length_nil, Nat.zero_add, Array.length_toList]; exact hn)
  rw [List.nil_append] at W
  have lc : SetTable.layClean m hs = some owner := by
    rw [layClean_eq]
    exact congrArg (Option.map (·.1)) f
  have e : t.relaid hs wanted = some (tabOf t m owner, ((liveOf m owner).map (·.2)).toArray) := by
    rw [relaid_eq, hw, Nat.add_sub_cancel, lc]; rfl
  obtain ⟨u1, u2⟩ := ris_live (fun j => owner.getD j none) (List.range (m + 1)) List.pairwise_lt_range
  have u1' : Ris ((liveOf m owner).map (·.1)) := u1
  have nd : ((liveOf m owner).map (·.1)).Nodup := List.Pairwise.imp Nat.ne_of_lt u1'
  have mem := fun j k => mem_live (j := j) (k := k) W.sz
  obtain ⟨ps, pl, pin⟩ := W.ps
  have le1 : (liveOf m owner).length ≤ hs.size := by
    have := nat_nodup_len _ ps nd fun x hx => by
      obtain ⟨⟨y, k⟩, hq, rfl⟩ := List.mem_map.mp hx
      obtain ⟨b1, b2⟩ := (mem y k).mp hq
      exact pin y b1 (by rw [b2]; exact Option.some_ne_none k)
    rw [pl, List.length_map, Array.length_toList] at this
    exact this
  have has : ∀ k, k < hs.size → k ∈ (liveOf m owner).map (·.2) := fun k hk => by
    obtain ⟨j, hj, ej⟩ := W.all k (by rw [Array.length_toList]; exact hk)
    exact List.mem_map.mpr ⟨(j, k), (mem j k).mpr ⟨hj, ej⟩, rfl⟩
  have le2 : hs.size ≤ (liveOf m owner).length := by
    have := nat_nodup_len (List.range hs.size) _ List.nodup_range fun k hk => has k (List.mem_range.mp hk)
    rw [List.length_range, List.length_map] at this
    exact this
  refine ⟨_, _, e, perm_range _ _ (by rw [List.length_map]; exact Nat.le_antisymm le1 le2) has, ⟨u1', rfl, ?_, M, fun x hx => ?_, fun i h j hi hj => ?_⟩, rfl, rfl, rfl⟩
  · show ((liveOf m owner).map (·.1)).length = (((liveOf m owner).map (·.2)).map _).length
    rw [List.length_map, List.length_map, List.length_map]
  · exact Nat.lt_succ_iff.mp (List.mem_range.mp (u2 x hx))
  · have hi' : (((liveOf m owner).map (·.2)).map fun i => hs.getD i 0)[i]? = some h := hi
    have hj' : ((liveOf m owner).map (·.1))[i]? = some j := hj
    rw [List.map_map, List.getElem?_map] at hi'
    rw [List.getElem?_map] at hj'
    obtain ⟨⟨y, k⟩, hq, ej⟩ := Option.map_eq_some_iff.mp hj'
    rw [hq] at hi'
    have ey : y = j := ej
    have eh : hs.getD k 0 = h := Option.some.inj hi'
    subst ey
    obtain ⟨b1, b2⟩ := (mem y k).mp (List.mem_of_getElem? hq)
    obtain ⟨h0, K, x1, x2, x3⟩ := W.at_ y k b1 b2
    have : hs.getD k 0 = h0 := by
      rw [Array.getElem?_toList] at x1
      rw [Array.getD_eq_getD_getElem?, x1]; rfl
    rw [← eh, this]
    refine ⟨K, x2, fun q hq => ?_⟩
    obtain ⟨v, ev⟩ := Option.ne_none_iff_exists'.mp (x3 q hq)
    exact List.mem_map.mpr ⟨(_, v), (mem _ v).mpr ⟨way_in m h0 q, ev⟩, rfl⟩
end Pf
end

section
set_option Elab.async false
set_option linter.all false
set_option maxRecDepth 100000
namespace Pf
open L2 PyProof.Rows PySem PySem.Spec
def mskL : List Nat := [7, 31, 127, 511, 2047, 8191]
theorem mskL_ok {m : Nat} (h : m ∈ mskL) : Msk m := by
  simp only [mskL, List.mem_cons, List.not_mem_nil, or_false] at h
  rcases h with rfl | rfl | rfl | rfl | rfl | rfl
  · exact msk7
  · exact msk31
  · exact msk127
  · exact msk511
  · exact msk2047
  · exact msk8191
/-- when it grows, to what -/
theorem grows {m n : Nat} (h : m ∈ mskL) (h1 : n * 5 < m * 3) (h2 : m * 3 ≤ (n + 1) * 5) (few : n + 1 < 4900) : n < m ∧ ∃ m', m' ∈ mskL ∧ SetTable.sizeAbove (SetTable.grown (n + 1)) = m' + 1 ∧ (n + 1) * 5 < m' * 3 := by
  simp only [mskL, List.mem_cons, List.not_mem_nil, or_false] at h
  have go : ∀ m' u, n + 1 = u → SetTable.sizeAbove (SetTable.grown u) = m' + 1 → u * 5 < m' * 3 → m' ∈ mskL → ∃ m', m' ∈ mskL ∧ SetTable.sizeAbove (SetTable.grown (n + 1)) = m' + 1 ∧ (n + 1) * 5 < m' * 3 := fun m' u e a b c => by
    subst e
    exact ⟨m', c, a, b⟩
  rcases h with rfl | rfl | rfl | rfl | rfl | rfl
  · exact ⟨by omega, go 31 5 (by omega) (by decide +kernel) (by decide) (by decide)⟩
  · exact ⟨by omega, go 127 19 (by omega) (by decide +kernel) (by decide) (by decide)⟩
  · exact ⟨by omega, go 511 77 (by omega) (by decide +kernel) (by decide) (by decide)⟩
  · exact ⟨by omega, go 2047 307 (by omega) (by decide +kernel) (by decide) (by decide)⟩
  · exact ⟨by omega, go 8191 1229 (by omega) (by decide +kernel) (by decide) (by decide)⟩
  · omega
abbrev pr (m : Nat) (h : Int) (c : Nat) : SetTable.Probe := nth m (runAt m (SetTable.bits h % (m + 1)) (SetTable.bits h)) c
theorem pr_nth (m : Nat) (h : Int) (c q : Nat) : nth m (pr m h c) q = pr m h (c + q) := (nth_add m c _ q).symm
theorem nth_dummy (m : Nat) : ∀ (c : Nat) (p : SetTable.Probe), p.dummy = none → (nth m p c).dummy = none
  | 0, _, e => e
  | c + 1, p, e => nth_dummy m c (adv m p) (by
    unfold adv
    split
    · exact e
    · exact e)
section
variable {P : Program} {A : Around} {w : World} {s : Shared} {E : Value → Shared → Prop}
/-- a set of tuples of ints, of any size up to 4900 -/
structure SB (P : Program) (w : World) (h : Heap) (a : Addr) (L : List (Addr × List Int)) (es : Array (Int × Value)) (ep : Nat) (t : SetTable) : Prop where
  obj : ∃ o, h.get? a = some o ∧ o.ExactSet ∧ o.data = .set es ep t
  ents : es.toList = rowsOf P w L
  tb : Tb t (L.map fun p => thash P w p.2)
  ones : (L.map (·.2)).Nodup
  tups : ∀ p ∈ L, IsT P w h p.2 p.1
  flat : t.plain = true
  ord : w.params.followText "set-order" = true ∨ t.led = true
  air : L.length * 5 < t.mask * 3
  cap : L.length < 4900
  msz : t.mask ∈ mskL
variable {a x : Addr} {L : List (Addr × List Int)} {es : Array (Int × Value)} {ep : Nat} {t : SetTable} {k : List Int}
theorem ents_len {L : List (Addr × List Int)} {es : Array (Int × Value)} (e : es.toList = rowsOf P w L) : es.size = L.length := by
  rw [← Array.length_toList, e]
  exact List.length_map _
theorem fits_of {t : SetTable} {n : Nat} (h1 : t.place.toList.length = n) (h2 : t.dummies = #[]) (h3 : n ≤ t.mask) : t.fits n = true := by
  rw [SetTable.fits, SetTable.fill]
  rw [← Array.length_toList, h1, h2]
  simp only [beq_self_eq_true, Bool.true_and, decide_eq_true_eq]
  exact h3
theorem SB.fit (R : SB P w s.heap a L es ep t) : t.fits es.size = true := by
  have c := R.tb.len
  have b := R.air
  rw [List.length_map] at c
  rw [ents_len R.ents]
  exact fits_of c R.tb.nod (by omega)
theorem SB.ent (R : SB P w s.heap a L es ep t) {i : Nat} {p : Addr × List Int} (h : L[i]? = some p) : es[i]? = some (thash P w p.2, Value.ref p.1) := by
  have e : es.toList[i]? = _ := (congrArg (·[i]?) R.ents).trans List.getElem?_map
  rw [h, Array.getElem?_toList] at e
  exact e
/-- a candidate is looked at -/
theorem SB.look (R : SB P w s.heap a L es ep t) (hx : IsT P w s.heap k x) (hu : A.units < cLine) {i j f : Nat} {p : Addr × List Int} (hp : L[i]? = some p) (hj : t.place.toList[i]? = some j) {next : SetTable.Probe} {Q : SetFound → Shared → Prop}
    (yes : p.2 = k → Q (.there none) s) (no : p.2 ≠ k → wpAny (model P w) A (setSearchFrom a (.ref x) (thash P w k) true f (some next)) Q E s) :
    wpAny (model P w) A (searchRest a (.ref x) (thash P w k) true f es t j i next) Q E s := by
  obtain ⟨o, ho, _, hd⟩ := R.obj
  have et := R.ent hp
  unfold searchRest
  rw [et]
  refine wpAny_bind (wpAny_holding (wpAny_eqBool_tuple hu (R.tups p (List.mem_of_getElem? hp)) hx (wpAny_bind (wpAny_setState_of ho hd R.fit ?_))))
  dsimp only
  by_cases c : p.2 = k
  · exact wp_if_pos (by simp [c]) (wpAny_pure (yes c))
  · refine wp_if_neg (by simp [c]) ?_
    try (refine wpAny_bind (wpAny_pure ?_))
    rw [sameMem]
    have live := slot_live R.tb.up hj
    simp only [if_true, live, et]
    refine wpAny_bind (wpAny_isSame_ref_self (wpAny_bind (wpAny_pure (?_ : _))))
    simp only [if_true]
    exact wp_if_neg (by simp [c]) (no c)
/-- the search, from the c-th step on -/
theorem SB.seek (R : SB P w s.heap a L es ep t) (hx : IsT P w s.heap k x) (hu : A.units < cLine) {K : Nat} (far : K < 10 * SetTable.turns t.mask) (free : ¬ way t.mask (thash P w k) K ∈ t.place.toList)
    (full : ∀ c, c < K → way t.mask (thash P w k) c ∈ t.place.toList) {Q : SetFound → Shared → Prop} (yes : k ∈ L.map (·.2) → Q (.there none) s) (no : k ∉ L.map (·.2) → Q (.free (way t.mask (thash P w k) K) false) s) :
    ∀ (f c : Nat) (stand : Option SetTable.Probe), stand.getD (t.probeStart (thash P w k)) = pr t.mask (thash P w k) c → c ≤ K → K < c + f →
      (∀ (i : Nat) p, L[i]? = some p → p.2 = k → ∃ b, c ≤ b ∧ b < K ∧ t.place.toList[i]? = some (way t.mask (thash P w k) b)) → wpAny (model P w) A (setSearchFrom a (.ref x) (thash P w k) true f stand) Q E s
  | 0, c, _, _, h1, h2, _ => absurd h2 (by omega)
  | f + 1, c, stand, hs, h1, h2, mine => by
    obtain ⟨o, ho, _, hd⟩ := R.obj
    rw [setSearchFrom_succ]
    refine wpAny_bind (wpAny_setState_of ho hd R.fit ?_)
    have odd : ¬ t.gaveWay = true := by
      unfold SetTable.gaveWay
      rw [(mskL_ok R.msz).odd]
      decide
    refine wp_if_neg odd ?_
    try (refine wpAny_bind (wpAny_pure ?_))
    have step : ∀ q, nth t.mask (pr t.mask (thash P w k) c) q = pr t.mask (thash P w k) (c + q) := pr_nth _ _ _
    have at_ : ∀ (i : Nat) p, L[i]? = some p → (es[i]?.map (·.1)).getD 0 = thash P w p.2 := fun i p hp => by rw [R.ent hp]; rfl
    have spec := go_spec t R.tb.up R.tb.nod (fun i => (es[i]?.map (·.1)).getD 0) (thash P w k) (10 * SetTable.turns t.mask) (K - c) (pr t.mask (thash P w k) c) (nth_dummy _ _ _ rfl) (by omega)
      (fun q hq => by rw [step]; exact full (c + q) (by omega)) (by rw [step, Nat.add_sub_cancel' h1]; exact free)
    rcases spec with ⟨q, i, lq, hi, _, before, got⟩ | ⟨before, got⟩
    · rw [step] at hi got
      rw [step] at got
      have got' : t.probe (fun i => (es[i]?.map (·.1)).getD 0) (thash P w k) (stand.getD (t.probeStart (thash P w k))) = _ := (congrArg _ hs).trans got
      rw [got']
      have lt : i < L.length := by
        have z := (List.getElem?_eq_some_iff.mp hi).1
        rw [R.tb.len, List.length_map] at z
        exact z
      have hp := List.getElem?_eq_getElem lt
      have main : wpAny (model P w) A (searchRest a (.ref x) (thash P w k) true f es t (way t.mask (thash P w k) (c + q)) i (pr t.mask (thash P w k) (c + (q + 1)))) Q E s :=
        R.look hx hu hp hi (fun e => yes (List.mem_map.mpr ⟨_, List.getElem_mem lt, e⟩)) fun ne => R.seek hx hu far free full yes no f (c + (q + 1)) _ rfl (by omega) (by omega) fun i0 p0 hp0 e0 => by
          obtain ⟨b, b1, b2, b3⟩ := mine i0 p0 hp0 e0
          refine ⟨b, ?_, b2, b3⟩
          rcases Nat.lt_trichotomy b (c + q) with z | z | z
          · refine absurd ((at_ i0 p0 hp0).trans (by rw [e0])) (before (b - c) i0 (by omega) ?_)
            rw [step, Nat.add_sub_cancel' b1]
            exact b3
          · subst z
            have l1 := slot_live R.tb.up b3
            rw [slot_live R.tb.up hi] at l1
            injection l1 with l1
            subst l1
            rw [hp] at hp0
            cases hp0
            exact (ne e0).elim
          · omega
      dsimp only
      cases led : t.led with
      | true =>
        refine wp_if_neg (by decide) ?_
        try (refine wpAny_bind (wpAny_pure ?_))
        exact main
      | false =>
        refine wp_if_pos rfl (wpAny_bind (seen_tup hx (fun y hy => ?_) ?_))
        · obtain ⟨e, he, rfl⟩ := List.mem_map.mp hy
          have in_ : e ∈ es.toList := by
            have : e ∈ es ∧ _ := Array.mem_filter.mp (Array.mem_toList_iff.mp he)
            exact Array.mem_toList_iff.mpr this.1
          rw [R.ents] at in_
          obtain ⟨z, hz, rfl⟩ := List.mem_map.mp in_
          exact ⟨z.2, z.1, rfl, R.tups z hz⟩
        · refine wp_if_neg Bool.false_ne_true ?_
          try (refine wpAny_bind (wpAny_pure ?_))
          exact main
    · rw [step, Nat.add_sub_cancel' h1] at got
      have got' : t.probe (fun i => (es[i]?.map (·.1)).getD 0) (thash P w k) (stand.getD (t.probeStart (thash P w k))) = _ := (congrArg _ hs).trans got
      rw [got']
      refine wpAny_pure (no fun there => ?_)
      obtain ⟨p0, in0, e0⟩ := List.mem_map.mp there
      obtain ⟨i0, lt0, g0⟩ := List.getElem_of_mem in0
      have hp0 : L[i0]? = some p0 := (List.getElem?_eq_getElem lt0).trans (congrArg some g0)
      obtain ⟨b, b1, b2, b3⟩ := mine i0 p0 hp0 e0
      refine before (b - c) i0 (by omega) ?_ ((at_ i0 p0 hp0).trans (by rw [e0]))
      rw [step, Nat.add_sub_cancel' b1]
      exact b3
theorem SB.search (R : SB P w s.heap a L es ep t) (hx : IsT P w s.heap k x) (hu : A.units < cLine) {Q : SetFound → Shared → Prop} (yes : k ∈ L.map (·.2) → Q (.there none) s)
    (no : ∀ K, k ∉ L.map (·.2) → ¬ way t.mask (thash P w k) K ∈ t.place.toList → (∀ c, c < K → way t.mask (thash P w k) c ∈ t.place.toList) → Q (.free (way t.mask (thash P w k) K) false) s) :
    wpAny (model P w) A (setSearch a (Value.ref x) (thash P w k) true) Q E s := by
  have b := R.air
  have m := (mskL_ok R.msz).bnd
  obtain ⟨K, far, free, full⟩ := R.tb.open_ (by rw [List.length_map]; omega) (thash P w k)
  have l : 10 * SetTable.turns t.mask ≤ 82060 := by unfold SetTable.turns; omega
  refine R.seek hx hu far free full yes (fun n => no K n free full) 100000 0 none rfl (Nat.zero_le K) (by omega) fun i p hp e => ?_
  have hi : (L.map fun p => thash P w p.2)[i]? = some (thash P w k) := by rw [List.getElem?_map, hp, ← e]; rfl
  have lt : i < t.place.toList.length := by rw [R.tb.len]; exact (List.getElem?_eq_some_iff.mp hi).1
  obtain ⟨c, lc, e'⟩ := R.tb.ahead free hi (List.getElem?_eq_getElem lt)
  exact ⟨c, Nat.zero_le c, lc, by rw [List.getElem?_eq_getElem lt, e']⟩
end
end Pf
end

section
set_option Elab.async false
set_option linter.all false
set_option maxRecDepth 100000
namespace Pf
open L2 PyProof.Rows PySem PySem.Spec
section
variable {P : Program} {A : Around} {w : World} {s : Shared} {E : Value → Shared → Prop}
variable {a x : Addr} {L : List (Addr × List Int)} {es : Array (Int × Value)} {ep : Nat} {t : SetTable} {k : List Int}
theorem size_small {u m : Nat} (h : SetTable.sizeAbove u = m + 1) (hm : m ∈ mskL) : ¬ SetTable.sizeAbove u > sizeLine := by
  have b := (mskL_ok hm).bnd
  have : 8192 ≤ sizeLine := by decide
  omega
/-- a larger table -/
theorem larger {o : Obj} (ho : s.heap.get? a = some o) (hex : o.ExactSet) (hd : o.data = .set es ep t) (ents : es.toList = rowsOf P w L) (len : t.place.toList.length = L.length) (nod : t.dummies = #[]) (lt : L.length ≤ t.mask)
    (ones : (L.map (·.2)).Nodup) (tups : ∀ p ∈ L, IsT P w s.heap p.2 p.1) (flat : t.plain = true) (ord : w.params.followText "set-order" = true ∨ t.led = true) (cap : L.length < 4900) {u m : Nat}
    (hu : SetTable.sizeAbove u = m + 1) (hm : m ∈ mskL) (air : L.length * 5 < m * 3) {Q : Unit → Shared → Prop}
    (q : ∀ h' L' es' ep' t', Heap.SameBut a s.heap h' → SB P w h' a L' es' ep' t' → L'.Perm L → Q () { s with heap := h' }) : wpAny (model P w) A (setRelay a u) Q E s := by
  have el := ents_len ents
  have em : (es.map (·.1)).size = L.length := by rw [Array.size_map, el]
  obtain ⟨t', order, e1, pm, T, e2, e3, e4⟩ := Tb.anew t (hs := es.map (·.1)) hu (mskL_ok hm) (by rw [em]; omega)
  rw [em] at pm
  obtain ⟨L2, r1, r2, r3⟩ := order_rows L es order ents pm
  rw [← r3] at T
  have el2 : (order.filterMap (es[·]?)).size = es.size := by rw [ents_len r1, r2.length_eq, el]
  rw [setRelay_eq]
  refine wpAny_bind (wpAny_setState_of ho hd (by rw [el]; exact fits_of len nod lt) ?_)
  dsimp only
  refine wp_if_neg (size_small hu hm) ?_
  try (refine wpAny_bind (wpAny_pure ?_))
  rw [e1]
  dsimp only
  refine wpAny_bind (wp_if_neg (by rw [el2]; simp) ?_)
  try (refine wpAny_bind (wpAny_pure ?_))
  refine wpAny_pure (wpAny_storeSet_of ho hd ?_ (by
    have : 8192 ≤ sizeLine := by decide
    rw [el2, el]; omega))
  have same : Heap.SameBut a s.heap (s.heap.update a (Obj.putSet (order.filterMap (es[·]?)) t')) := Heap.SameBut.update ..
  refine q _ L2 _ (ep + 1) t' same ⟨⟨_, store_at ho hd, ⟨hex.1, hex.2.1, hex.2.2⟩, rfl⟩, r1, T, (r2.map (·.2)).nodup_iff.mpr ones, fun p hp => isT_same (tups p (r2.mem_iff.mp hp)) ho hd same, e4.trans flat, ?_, ?_, ?_, ?_⟩ r2
  · rw [e3]; exact ord
  · rw [r2.length_eq, e2]; exact air
  · rw [r2.length_eq]; exact cap
  · rw [e2]; exact hm
/-- one is added -/
theorem SB.add (R : SB P w s.heap a L es ep t) (hx : IsT P w s.heap k x) (hu : A.units < cLine) (few : L.length + 1 < 4900) {Q : Bool → Shared → Prop}
    (q : ∀ b h' L' es' ep' t', Heap.SameBut a s.heap h' → SB P w h' a L' es' ep' t' → (k ∈ L.map (·.2) → L' = L) → (k ∉ L.map (·.2) → L'.Perm ((x, k) :: L)) → Q b { s with heap := h' }) :
    wpAny (model P w) A (setAddHashed a (Value.ref x) (thash P w k)) Q E s := by
  obtain ⟨o, ho, hex, hd⟩ := R.obj
  have big : 8192 ≤ sizeLine := by decide
  have el := ents_len R.ents
  have plen := R.tb.len
  rw [List.length_map] at plen
  show wpAny _ _ (holding _ _) _ _ _
  refine wpAny_holding ?_
  rw [show (100000 : Nat) = Nat.succ 99999 from rfl, setAddHashedIn_succ]
  refine wpAny_bind (wpAny_setState_of ho hd R.fit (wp_if_neg (show ¬ byScan (Value.ref x) es = true by simp [byScan, Value.scannable]) ?_))
  try (refine wpAny_bind (wpAny_pure ?_))
  refine wpAny_bind (R.search hx hu (fun there => wpAny_pure (q false _ L es ep t (Heap.SameBut.refl a _) R (fun _ => rfl) fun n => absurd there n)) fun K out free full => ?_)
  dsimp only
  refine wpAny_bind (wpAny_setState_of ho hd R.fit ?_)
  dsimp only
  generalize hj : way t.mask (thash P w k) K = j at free
  obtain ⟨pl, T, fill⟩ := R.tb.more (p := SetTable.below t.place j) (h := thash P w k) (K := K) (by rw [hj]; exact free) full (by rw [hj])
  rw [hj] at T fill
  have f1 : (t.put j).1.plain = true := R.flat
  have f2 : (t.put j).1.mask = t.mask := rfl
  have f3 : (t.put j).1.led = t.led := rfl
  have f4 : (t.put j).2 = SetTable.below t.place j := rfl
  generalize hpt : t.put j = pt at T fill f1 f2 f3 f4 ⊢
  obtain ⟨t1, p1⟩ := pt
  dsimp only at T fill f1 f2 f3 f4 ⊢
  rw [← f4] at T pl
  first
    | (refine wpAny_bind ?_; refine wp_if_pos f1 ?_; refine hashBy_tup hx ?_)
    | refine wp_if_pos f1 (wpAny_bind (hashBy_tup hx ?_))
  simp only [if_true]
  have pm := put_perm L p1 (x, k)
  have ents1 : (SetTable.insertAt es p1 (thash P w k, Value.ref x)).toList = rowsOf P w (L.take p1 ++ (x, k) :: L.drop p1) := by
    rw [rows_put, SetTable.toList_insertAt, R.ents]
  have T1 : Tb t1 ((L.take p1 ++ (x, k) :: L.drop p1).map fun p => thash P w p.2) := by
    simp only [List.map_append, List.map_cons, List.map_take, List.map_drop]
    exact T
  generalize SetTable.insertAt es p1 (thash P w k, Value.ref x) = es1 at ents1 ⊢
  generalize L.take p1 ++ (x, k) :: L.drop p1 = L1 at pm ents1 T1
  have l1 : L1.length = L.length + 1 := pm.length_eq
  have ones1 : (L1.map (·.2)).Nodup := (pm.map (·.2)).nodup_iff.mpr (List.nodup_cons.mpr ⟨out, R.ones⟩)
  have e1 := ents_len ents1
  refine wpAny_bind (wpAny_storeSet_of ho hd ?_ (by rw [e1, l1]; omega))
  have same : Heap.SameBut a s.heap (s.heap.update a (Obj.putSet es1 t1)) := Heap.SameBut.update ..
  have ho1 := store_at ho hd (es' := es1) (t' := t1)
  generalize s.heap.update a (Obj.putSet es1 t1) = h1 at same ho1 ⊢
  have tups1 : ∀ p ∈ L1, IsT P w h1 p.2 p.1 := fun p hp => by
    have hp' := pm.mem_iff.mp hp
    cases hp' with
    | head => exact isT_same hx ho hd same
    | tail _ hp' => exact isT_same (R.tups p hp') ho hd same
  have ord1 : w.params.followText "set-order" = true ∨ t1.led = true := f3 ▸ R.ord
  have hex1 : ∀ dt, Obj.ExactSet { o with data := dt } := fun dt => ⟨hex.1, hex.2.1, hex.2.2⟩
  by_cases c : t1.tooFull = true
  · have over : t.mask * 3 ≤ (L.length + 1) * 5 := by
      have z := c
      unfold SetTable.tooFull at z
      rw [decide_eq_true_eq, fill, List.length_map, f2] at z
      exact z
    obtain ⟨lt, m', hm', hs', air'⟩ := grows R.msz R.air over few
    first
      | (refine wpAny_bind ?_; refine wp_if_pos (by simp [c]) ?_)
      | (refine wp_if_pos (by simp [c]) ?_; refine wpAny_bind ?_)
    rw [el]
    refine larger (s := { s with heap := h1 }) ho1 (hex1 _) rfl ents1 (by rw [T1.len, List.length_map]) T1.nod (by rw [l1, f2]; omega) ones1 tups1 f1 ord1 (by rw [l1]; exact few) hs' hm' (by rw [l1]; exact air') fun h2 L2 es2 ep2 t2 same2 R2 pm2 => ?_
    exact wpAny_pure (q true h2 L2 es2 ep2 t2 (same.trans same2) R2 (fun z => absurd z out) fun _ => pm2.trans pm)
  · have under : (L.length + 1) * 5 < t1.mask * 3 := by
      have z := c
      unfold SetTable.tooFull at z
      rw [decide_eq_true_eq, fill, List.length_map] at z
      omega
    have fin : Q true { s with heap := h1 } := q true h1 L1 es1 (ep + 1) t1 same ⟨⟨_, ho1, hex1 _, rfl⟩, ents1, T1, ones1, tups1, f1, ord1, by rw [l1]; exact under, by rw [l1]; exact few, by rw [f2]; exact R.msz⟩ (fun z => absurd z out) fun _ => pm
    first
      | exact wp_if_neg (by simp [c]) (wpAny_pure fin)
      | (refine wpAny_bind ?_; refine wp_if_neg (by simp [c]) ?_; exact wpAny_pure (wpAny_pure fin))
end
end Pf
end

section
set_option Elab.async false
set_option linter.all false
set_option maxRecDepth 100000
namespace Pf
open L2 PyProof.Rows PySem PySem.Spec
section
variable {P : Program} {A : Around} {w : World} {s : Shared} {E : Value → Shared → Prop}
theorem SB.stays {h h' : Heap} {a : Addr} {L : List (Addr × List Int)} {es : Array (Int × Value)} {ep : Nat} {t : SetTable} (R : SB P w h a L es ep t) (k : ∀ o, h.get? a = some o → h'.get? a = some o) (ht : ∀ p ∈ L, IsT P w h' p.2 p.1) : SB P w h' a L es ep t := by
  obtain ⟨o, ho, r⟩ := R.obj
  exact { R with obj := ⟨o, k o ho, r⟩, tups := ht }
abbrev newS (w : World) : Obj := { cls := .type "set", dict := none, data := .set #[] 0 (.fresh 0 0 (!w.params.followText "set-order")) }
theorem SB.empty {h : Heap} {a : Addr} (ho : h.get? a = some (newS w)) : SB P w h a [] #[] 0 (.fresh 0 0 (!w.params.followText "set-order")) := by
  refine ⟨⟨_, ho, ⟨rfl, rfl, rfl⟩, rfl⟩, rfl, ⟨List.Pairwise.nil, rfl, rfl, msk7, (fun x hx => nomatch hx), (fun i h j hi _ => by simp at hi)⟩, List.nodup_nil, (fun p hp => nomatch hp), rfl, ?_, show 0 * 5 < 7 * 3 by decide, show 0 < 4900 by decide, show 7 ∈ mskL by decide⟩
  show _ = true ∨ (!w.params.followText "set-order") = true
  cases w.params.followText "set-order" <;> simp
/-- the loop that puts all in -/
theorem fill_loop {I S : Addr} {fp wr : List Addr} {G : Array GenState → Array GenState → Prop} {n : Nat} {Pv : Nat → Value → Prop} {St : Nat → Shared → Prop} {R : Result → Shared → Prop} (W : WalksS P w A.in1 I fp wr G n Pv St) (far : S ∉ fp)
    (ks : List (Addr × List Int)) (hn : n = ks.length) (few : ks.length < 4900) (val : ∀ i v, Pv i v → ∃ p, ks[i]? = some p ∧ v = .ref p.1) (h0 : Heap) (hk : ∀ p ∈ ks, IsT P w h0 p.2 p.1) (noS : h0.get? S = none) (noW : ∀ b ∈ wr, h0.get? b = none) (hu : A.in1.units < cLine) :
    ∀ (left i : Nat) (s : Shared), i + left = n → St i s → (∀ b o, h0.get? b = some o → s.heap.get? b = some o) → (∃ L es ep t, SB P w s.heap S L es ep t ∧ Got ks i L) →
      (∀ s' L es ep t, Moved (S :: wr) G s s' → SB P w s'.heap S L es ep t → Got ks n L → (∀ b o, h0.get? b = some o → s'.heap.get? b = some o) → R (.ok (.ret .none)) s') →
      codeAny (model P w) A (Code.builtin "set.update.loop" ⟨[.ref S, .ref I], []⟩) R s := by
  have nw : S ∉ wr := fun z => far (W.sub S z)
  have old : ∀ {s s' : Shared}, Moved wr G s s' → (∀ b o, h0.get? b = some o → s.heap.get? b = some o) → ∀ b o, h0.get? b = some o → s'.heap.get? b = some o := fun {s s'} m k b o e =>
    m.heap b o (fun z => Option.some_ne_none o (e.symm.trans (noW b z))) (k b o e)
  have up : ∀ {s s' : Shared}, Moved wr G s s' → Moved (S :: wr) G s s' := fun m => m.mono fun b z => List.mem_cons_of_mem S z
  intro left
  induction left with
  | zero =>
    rintro i s hi st k ⟨L, es, ep, t, B, g⟩ q
    obtain rfl : i = n := hi
    refine codeAny_builtin (F.entry_set_update_loop) ?_
    rw [Around.under_plainId (F.plain_set_update_loop) _]
    refine wpAny_bind (m := pyNext (.ref I)) (W.done s _ _ st fun s' m => ?_)
    refine wpAny_pure (q s' L es ep t (up m) (B.stays (fun o e => m.heap S o nw e) fun p hp => isT_keep (hk p ?_) (old m k)) g (old m k))
    exact List.mem_of_mem_take (g.sub p hp)
  | succ left ih =>
    rintro i s hi st k ⟨L, es, ep, t, B, g⟩ q
    refine codeAny_builtin (F.entry_set_update_loop) ?_
    rw [Around.under_plainId (F.plain_set_update_loop) _]
    refine wpAny_bind (m := pyNext (.ref I)) (W.item i s _ _ (by omega) st fun v s' pv st' m => ?_)
    obtain ⟨p, hp, rfl⟩ := val i v pv
    have k' := old m k
    have B' : SB P w s'.heap S L es ep t := B.stays (fun o e => m.heap S o nw e) fun p hp => isT_keep (hk p (List.mem_of_mem_take (g.sub p hp))) k'
    have px : IsT P w s'.heap p.2 p.1 := isT_keep (hk p (List.mem_of_getElem? hp)) k'
    refine wpAny_bind (m := holding [Value.ref p.1] (setAdd S (.ref p.1))) (wpAny_holding ?_)
    unfold setAdd
    refine wpAny_holding (wpAny_bind (wpAny_pyHash_tuple hu px ?_))
    have gl := g.len
    refine SB.add (s := { s' with toks := s'.toks + (p.2.length + 1) }) B' px hu (by omega) fun b h' L' es' ep' t' same B2 c1 c2 => ?_
    have gn : Got ks (i + 1) L' := by
      by_cases c : p.2 ∈ L.map (·.2)
      · exact c1 c ▸ g.same hp c
      · exact g.more hp (c2 c)
    have k2 : ∀ b o, h0.get? b = some o → h'.get? b = some o := fun b o e => (same.2 b fun z => Option.some_ne_none o ((z ▸ e).symm.trans noS)).trans (k' b o e)
    have st2 := W.frame (i + 1) s' h' (s'.toks + (p.2.length + 1)) st' (Nat.le_add_right _ _) fun b hb o e => (same.2 b fun z => far (z ▸ hb)).trans e
    refine wpAny_pure ⟨plainId_quiet F.plain_set_update_loop _, ih (i + 1) _ (by omega) st2 k2 ⟨L', es', ep', t', B2, gn⟩ fun s'' L2 es2 ep2 t2 m2 B3 g3 k3 => ?_⟩
    refine q s'' L2 es2 ep2 t2 (Moved.trans W.gtrans ((up m).then_heap (Nat.le_add_right _ _) fun b o hb e => ?_) m2) B3 g3 k3
    exact (same.2 b fun z => hb (z ▸ List.mem_cons_self)).trans e
set_option maxHeartbeats 3200000
/-- set(xs), xs a tuple -/
theorem mkset_tup {l : Addr} {items : Array Value} (ks : List (Addr × List Int)) {Q : Value → Shared → Prop} (hh : A.handled = none) (hl : s.heap.IsTuple l items) (hit : items.toList = ks.map fun p => Value.ref p.1) (hk : ∀ p ∈ ks, IsT P w s.heap p.2 p.1)
    (few : ks.length < 4900) (hu : A.units + 3 < cLine) (q : ∀ (h' : Heap) (tk : Nat) L es ep t, SB P w h' s.heap.objs.size L es ep t → Got ks ks.length L → (∀ b o, s.heap.get? b = some o → h'.get? b = some o) → Q (.ref s.heap.objs.size) { s with heap := h', toks := tk }) :
    wpAny (model P w) A (call (Value.type "set") [Value.ref l]) Q E s := by
  have isz : items.size = ks.length := by
    have z := congrArg List.length hit
    simpa using z
  obtain ⟨c, tl, mro⟩ := F.called_set.mro
  have made := F.called_set.made
  have sub := F.called_set.sub
  have hA := F.called_set.notType
  have hB := F.called_set.canCreate
  have hC := F.typeCall_set_1 (.ref l)
  refine wpAny_call (codeAny_of_tree (show wpAny _ _ (callAny (.type "set") _) _ _ _ from wpAny_pure ⟨Code.quiet_builtin _ (by decide +kernel), codeAny_builtin F.entry_type_call ?_⟩))
  rw [Around.under_plain (weight_type_call_type "set" [Value.ref l] []) rfl]
  repeat (any_goals (first | (assumption) | (wp_step)))
  refine codeAny_mono (code_set_led1 (.ref l) (E := E) (Q₁ := fun v s₁ => v = .ref s.heap.objs.size ∧ s₁ = { s with heap := s.heap.push (newS w) }) ⟨rfl, rfl⟩) fun r s₁ hr => ?_
  match r, hr with
  | .ok (.ret v), hr =>
    obtain ⟨rfl, rfl⟩ := hr
    have hS : (s.heap.push (newS w)).get? s.heap.objs.size = some (newS w) := Heap.get?_push_size _ rfl
    have hT : Shared.TypeIs { s with heap := s.heap.push (newS w) } (.ref s.heap.objs.size) "set" := ⟨_, hS, rfl⟩
    have hL := F.called_set.init.lookup
    have hM := F.called_set.init.bind (.ref s.heap.objs.size)
    repeat (any_goals (first | (assumption) | (wp_step)))
    refine codeAny_mono (codeAny_call_builtin (R := wants (fun r s₂ => r = .none ∧ ∃ h' tk L es ep t, s₂ = { s with heap := h', toks := tk } ∧ SB P w h' s.heap.objs.size L es ep t ∧ Got ks ks.length L ∧ (∀ b o, s.heap.get? b = some o → h'.get? b = some o)) E)
      F.called_set.init.plain F.entry_set_init (check_set_init_1 hT ?_)) fun r₂ s₂ hr₂ => ?_
    · obtain ⟨⟨ocls, odict, odata, oslots⟩, hol, hcl, nl, hdl⟩ := hl
      simp only at hcl hdl
      subst hcl hdl
      have hol' : (s.heap.push (newS w)).get? l = some { cls := .type "tuple", dict := odict, data := .seq items nl, slots := oslots } := Heap.get?_push_of_some _ hol
      have hl1 : (s.heap.push (newS w)).IsTuple l items := ⟨_, hol', rfl, nl, rfl⟩
      have u1 := F.sub_tuple_set
      have u2 := F.sub_tuple_frozenset
      have u3 : (Value.type "tuple" == Value.type "dict") = false := by decide
      unfold Builtin.«set.__init__» noKeywords
      unfold Builtin.Frozenset.updateFrom
      generalize hPI : pyIter = PI
      wp_walk
      subst hPI
      refine wpAny_pyIter_tuple hl1 (wpAny_bind (wpAny_runValue ?_))
      have lS : l < s.heap.objs.size := Heap.lt_size hol
      have sz : (s.heap.push (newS w)).objs.size = s.heap.objs.size + 1 := Heap.size_push ..
      have none_ : ∀ b, s.heap.objs.size ≤ b → s.heap.get? b = none := fun b hb => by
        cases z : s.heap.get? b with
        | none => rfl
        | some o => exact absurd (Heap.lt_size z) (Nat.not_lt.mpr hb)
      refine fill_loop ((Walks.tuple (by simp [hh]) (s.heap.push (newS w)).objs.size l (by rw [sz]; exact Nat.ne_of_lt (Nat.lt_succ_of_lt lS)) items).toS) (S := s.heap.objs.size) (by rw [sz]; intro z; rcases List.mem_cons.mp z with z | z; exact Nat.lt_irrefl _ (Nat.lt_of_lt_of_eq (Nat.lt_succ_self _) z.symm); exact Nat.ne_of_gt lS (List.mem_singleton.mp z)) ks isz few (fun i v hv => ?_) s.heap hk (none_ _ (Nat.le_refl _)) (fun b hb => none_ b (by rw [List.mem_singleton.mp hb, sz]; omega)) hu items.size 0 _ (Nat.zero_add _)
        ⟨⟨_, Heap.get?_push_size _ rfl, rfl, rfl⟩, hl1.push _⟩ (fun b o e => Heap.get?_push_of_some _ (Heap.get?_push_of_some _ e)) ⟨[], #[], 0, _, SB.empty (Heap.get?_push_of_some _ hS), Got.zero ks⟩ fun s' L es ep t m B g k => ?_
      · have z : items.toList[i]? = some v := by rw [Array.getElem?_toList]; exact hv
        rw [hit, List.getElem?_map, Option.map_eq_some_iff] at z
        obtain ⟨p, e1, e2⟩ := z
        exact ⟨p, e1, e2.symm⟩
      · obtain ⟨h', g2, d', tk', os'⟩ := s'
        obtain rfl : g2 = s.gens := m.gens
        obtain rfl : d' = s.drawn := m.drawn
        obtain rfl : os' = s.os := m.os
        refine wpAny_pure (wpAny_pure ⟨rfl, h', tk', L, es, ep, t, rfl, B, isz ▸ g, k⟩)
    · match r₂, hr₂ with
      | .error e, hr₂ => exact hr₂
      | .ok (.ret v), hr₂ =>
        obtain ⟨rfl, h', tk, L, es, ep, t, rfl, B, g, k⟩ := hr₂
        repeat (any_goals (first | (assumption) | (wp_step)))
        exact q _ _ _ _ _ _ B g k
  | .error e, hr => exact hr
end
end Pf
end

section
set_option Elab.async false
set_option linter.all false
set_option maxRecDepth 100000
namespace Pf
open L2 PyProof.Rows PySem PySem.Spec PySem.W
/-! ### the order of tuples of ints -/
def tupI (ns : List Int) : D := .tup (ns.map .int)
def pdI (ns : List Int) : PyData := .tuple (ns.map .int)
def leI (a b : List Int) : Bool := !dataLt (pdI b) (pdI a)
theorem leI_eq (a b : List Int) : leI a b = decide (a ≤ b) := by
  unfold leI pdI
  have e := dataLt_ints b a
  unfold rowLt at e
  rw [dataLt_tuple, e]
  by_cases h : b < a
  · have : ¬ a ≤ b := List.not_le.mpr h
    simp [h, this]
  · have : a ≤ b := List.not_lt.mp h
    simp [h, this]
theorem sort_same {l m : List (List Int)} (h : l.Perm m) : l.mergeSort leI = m.mergeSort leI := by
  have tr : ∀ a b c : List Int, leI a b = true → leI b c = true → leI a c = true := fun a b c h1 h2 => by
    rw [leI_eq, decide_eq_true_eq] at *
    exact List.le_trans h1 h2
  have tot : ∀ a b : List Int, (leI a b || leI b a) = true := fun a b => by
    rw [leI_eq, leI_eq, Bool.or_eq_true, decide_eq_true_eq, decide_eq_true_eq]
    exact List.le_total a b
  refine List.Perm.eq_of_pairwise (le := fun a b => leI a b = true) (fun a b _ _ h1 h2 => ?_) (List.pairwise_mergeSort tr tot l) (List.pairwise_mergeSort tr tot m) ((List.mergeSort_perm l leI).trans (h.trans (List.mergeSort_perm m leI).symm))
  rw [leI_eq, decide_eq_true_eq] at h1 h2
  exact List.le_antisymm h1 h2
theorem eraseDups_mem {α : Type} [BEq α] [LawfulBEq α] {l : List α} {a : α} : a ∈ l.eraseDups ↔ a ∈ l := by
  exact List.mem_eraseDups
end Pf
end

section
set_option Elab.async false
set_option linter.all false
set_option maxRecDepth 100000
namespace Pf
open L2 PyProof.Rows PySem PySem.Spec PySem.W
theorem perm_unmap {α β : Type} {f : α → β} {vs ws : List β} (h : vs.Perm ws) : ∀ L : List α, ws = L.map f → ∃ L1 : List α, vs = L1.map f ∧ L1.Perm L := by
  induction h with
  | nil =>
    intro L e
    have : L = [] := List.map_eq_nil_iff.mp e.symm
    subst this
    exact ⟨[], rfl, .refl _⟩
  | cons x _ ih =>
    intro L e
    obtain ⟨y, L2, rfl, rfl, e2⟩ := List.map_eq_cons_iff.mp e.symm
    obtain ⟨L1, rfl, p⟩ := ih L2 e2.symm
    exact ⟨y :: L1, rfl, p.cons y⟩
  | swap x y l =>
    intro L e
    obtain ⟨a, L2, rfl, rfl, e2⟩ := List.map_eq_cons_iff.mp e.symm
    obtain ⟨b, L3, rfl, rfl, rfl⟩ := List.map_eq_cons_iff.mp e2
    exact ⟨b :: a :: L3, rfl, .swap a b L3⟩
  | trans _ _ ih1 ih2 =>
    intro L e
    obtain ⟨L1, e1, p1⟩ := ih2 L e
    obtain ⟨L2, e2, p2⟩ := ih1 L1 e1
    exact ⟨L2, e2, p2.trans p1⟩
/-- the set at a, its tuples left out -/
structure SB0 (P : Program) (w : World) (h : Heap) (a : Addr) (L : List (Addr × List Int)) : Prop where
  ex : ∃ es ep t, (∃ o, h.get? a = some o ∧ o.ExactSet ∧ o.data = .set es ep t) ∧ ∀ h' : Heap, (∃ o, h'.get? a = some o ∧ o.ExactSet ∧ o.data = .set es ep t) → (∀ p ∈ L, IsT P w h' p.2 p.1) → SB P w h' a L es ep t
def SetO (P : Program) (w : World) (a : Addr) (L : List (Addr × List Int)) : HO := .ext fun h => SB0 P w h a L
theorem SB.bare0 {P : Program} {w : World} {h : Heap} {a : Addr} {L : List (Addr × List Int)} {es : Array (Int × Value)} {ep : Nat} {t : SetTable} (R : SB P w h a L es ep t) : SB0 P w h a L :=
  ⟨es, ep, t, R.obj, fun h' o ht => { R with obj := o, tups := ht }⟩
theorem SetO.new {P : Program} {w : World} {H : Hp} {h : Heap} {a : Addr} {L : List (Addr × List Int)} (R : SB0 P w h a L) : ObjOk P w H h a (SetO P w a L) := by
  obtain ⟨es, ep, t, ⟨o, ho, r⟩, q⟩ := R.ex
  exact ⟨R, ⟨o, ho⟩, fun h1 h2 p k => by
    obtain ⟨es2, ep2, t2, ⟨o2, ho2, r2⟩, q2⟩ := SB0.ex p
    exact ⟨es2, ep2, t2, ⟨o2, k o2 ho2, r2⟩, q2⟩⟩
section
variable {X : Cx}
def rMk (K : PySem.W.Frag) (P : Program) (w : World) : List V → Hp → VK → Prop := fun xs H Q => ∃ (l : Addr) (ks : List (Addr × List Int)), xs = [V.ref l] ∧ SqT K H l (ks.map fun p => V.ref p.1) ∧ (∀ p ∈ ks, SqT K H p.1 (p.2.map V.int)) ∧ ks.length < 4900 ∧
  ∀ (a : Addr) (L : List (Addr × List Int)), H a = none → (∀ p ∈ L, p ∈ ks) → (∀ p ∈ ks, p.2 ∈ L.map (·.2)) → (L.map (·.2)).Nodup → L.length ≤ ks.length → Q (.ref a) (upd H a (SetO P w a L))
theorem cr_mk (hc : X.calm = true) (hu : X.A.units + 64 < cLine) : CallR X (.type "set") (rMk X.K X.prog X.w) := by
  intro pins s σ H xs us Q I r hyp
  obtain ⟨l, ks, rfl, hl, hk, few, q⟩ := hyp
  rw [Vals.ref1 r]
  obtain ⟨its, rv, pl, _⟩ := I.tuple hl
  have no : H s.heap.objs.size = none := I.hok.fresh (Nat.le_refl _)
  refine mkset_tup (P := X.prog) (w := X.w) ks (I.ok.hd hc) pl (refs_of_vals (by simpa using rv)) (fun p hp => I.isT (hk p hp)) few (by omega) fun h' tk L es ep t B g k => ?_
  refine ⟨.ref s.heap.objs.size, upd H s.heap.objs.size (SetO X.prog X.w s.heap.objs.size L), I.laid (t' := tk) k (Nat.le_refl _) (SetO.new B.bare0), rfl, q _ L no (fun p hp => List.mem_of_mem_take (g.sub p hp)) (fun p hp => g.all p ?_) B.ones g.len⟩
  rw [List.take_length]; exact hp
def rSt (K : PySem.W.Frag) (P : Program) (w : World) : List V → Hp → VK → Prop := fun vs H Q => ∃ (a : Addr) (L : List (Addr × List Int)), vs = [V.ref a] ∧ H a = some (SetO P w a L) ∧ (∀ p ∈ L, SqT K H p.1 (p.2.map V.int)) ∧ (∀ p ∈ L, p.2 ≠ []) ∧ L.length < 4000 ∧
  ∀ (q : Addr) (L' : List (Addr × List Int)), H q = none → L'.map (·.2) = (L.map (·.2)).mergeSort leI → (∀ p ∈ L', p ∈ L) → Q (.ref q) (upd H q (.lst (L'.map fun p => V.ref p.1)))
theorem dp_ints {K : PySem.W.Frag} {H : Hp} : ∀ ns : List Int, DpAll K H (ns.map V.int) (ns.map PyData.int)
  | [] => .nil
  | n :: ns => .cons (.int n) (dp_ints ns)
theorem each_of {P : Value × (Addr × List Int) → Prop} {R : Value → Addr × List Int → Prop} : ∀ L : List (Addr × List Int), (∀ p ∈ L, R (.ref p.1) p) → EachIs R (L.map fun p => Value.ref p.1) L
  | [], _ => .nil
  | p :: L, h => .cons (h p List.mem_cons_self) (each_of (P := P) L fun q hq => h q (List.mem_cons_of_mem _ hq))
theorem each_refs : ∀ {us : List Value} {L : List (Addr × List Int)}, EachIs (fun v p => v = Value.ref p.1) us L → us = L.map fun p => Value.ref p.1
  | _, _, .nil => rfl
  | _, _, .cons r t => by rw [r, each_refs t]; rfl
theorem cr_st [TabsC] (hc : X.calm = true) (hu : X.A.units + 70 < cLine) : CallR X (.builtin "sorted") (rSt X.K X.prog X.w) := by
  intro pins s σ H vs us Q I r hyp
  obtain ⟨a, L, rfl, ha, hk, hne, cap, q⟩ := hyp
  rw [Vals.ref1 r]
  have R0 : SB0 X.prog X.w s.heap a L := (I.hok a _ ha).1
  obtain ⟨es, ep, t, ob, up⟩ := R0.ex
  have B := up s.heap ob fun p hp => I.isT (hk p hp)
  obtain ⟨o, ho, hex, hd⟩ := B.obj
  have big : 8192 ≤ sizeLine := by decide
  refine sorted_got (R := fun v p => v = Value.ref p.1) (enc := fun p : Addr × List Int => pdI p.2) fun Q' kq => ?_
  refine collect_set (A := X.A.in1) (I.ok.hd hc) ⟨o, ho, hex.1, hd⟩ B.fit (by rw [ents_len B.ents]; unfold scanBound; omega) B.tb.up B.ord fun s1 ws k1 hz g1 o1 pm => ?_
  have ee : es.toList.map (·.2) = L.map fun p => Value.ref p.1 := by
    rw [B.ents]
    unfold L2.rowsOf
    rw [List.map_map]; rfl
  rw [ee] at pm
  obtain ⟨L1, rfl, p1⟩ := perm_unmap pm L rfl
  have in1 : ∀ p ∈ L1, p ∈ L := fun p hp => p1.mem_iff.mp hp
  refine kq _ L1 s1 (each_of (P := fun _ => True) L1 fun _ _ => rfl) (each_of (P := fun _ => True) L1 fun p hp => ?_) (fun d hd d' hd' => ?_) (.inl fun d hd => ?_) (by rw [p1.length_eq]; omega) (fun p hp => ?_) (fun out p h' hlen eo hp old hn => ?_) k1 hz
  · obtain ⟨as, rd⟩ := Dp.reads I (pdI p.2) (V.ref p.1) (Value.ref p.1) (.tup (hk p (in1 p hp)) (dp_ints p.2)) rfl
    exact ⟨as, PyProof.Rows.Reads.keeps (fun b o z => k1 b o z) rd⟩
  · obtain ⟨x, _, rfl⟩ := List.mem_map.mp hd
    obtain ⟨y, _, rfl⟩ := List.mem_map.mp hd'
    show alike (.tuple _) (.tuple _) = true
    unfold alike
    exact alike_ints _ _
  · obtain ⟨x, hx, rfl⟩ := List.mem_map.mp hd
    cases e : x.2 with
    | nil => exact (hne x (in1 x hx) e).elim
    | cons n ns => exact ⟨.int n, ns.map .int, rfl⟩
  · show X.A.units + 3 + PyData.depth (.tuple _) < cLine
    rw [PyData.depth, depth_ints]
    omega
  · obtain ⟨n, hn⟩ := hn
    have er := each_refs eo
    generalize hL : L1.mergeSort (dataLe false fun p : Addr × List Int => pdI p.2) = L' at eo er
    have no : H p = none := I.hok.fresh hp
    have l1 : L'.length = L1.length := by rw [← hL, List.length_mergeSort]
    have keys : L'.map (·.2) = (L.map (·.2)).mergeSort leI := by
      rw [← sort_same (p1.map (·.2)), ← hL]
      exact List.map_mergeSort (fun a _ b _ => rfl)
    subst er
    have J : Inv X pins σ (upd H p (.lst (L'.map fun q => V.ref q.1))) { s with heap := h', gens := s1.gens, drawn := s1.drawn, toks := s1.toks } :=
      I.call (ch := []) (Un.laid old hp no) (I.hok.laid old hp ⟨by rw [List.length_map, l1, p1.length_eq]; omega, _, n, vals_of_refs L', hn⟩) (by rw [show s1.gens = s.gens from g1]; exact I.bare) (fun _ z => nomatch z)
    have es1 : ({ s1 with heap := h' } : Shared) = { s with heap := h', gens := s1.gens, drawn := s1.drawn, toks := s1.toks } := by
      cases s1
      cases s
      cases o1
      rfl
    rw [es1]
    exact ⟨.ref p, _, J, rfl, q p L' no keys fun z hz => in1 z (List.mem_mergeSort.mp (hL ▸ hz))⟩
end
end Pf
end

section
set_option Elab.async false
set_option linter.all false
set_option maxRecDepth 100000
namespace Pf
open L2 PyProof.Rows PySem PySem.Spec PySem.W
variable [TabsC]
/-! ### sorted(set(a tuple of tuples of ints)) -/
def intTup : D → Option (List Int)
  | .tup xs => intsD xs
  | _ => none
def setOk (ds : List D) : Bool := ds.all (fun d => match intTup d with | some (_ :: _) => true | _ => false) && decide (ds.length < 4000)
def sortSet (ds : List D) : List D := (((ds.filterMap intTup).eraseDups).mergeSort leI).map tupI
def dSortSet : D → Option D
  | .tup ds => if setOk ds = true then some (.lst (sortSet ds)) else none
  | _ => none
theorem dups_nodup {α : Type} [BEq α] [LawfulBEq α] : ∀ (n : Nat) (l : List α), l.length ≤ n → l.eraseDups.Nodup
  | _, [], _ => by simp
  | 0, a :: l, h => absurd h (by simp)
  | n + 1, a :: l, h => by
    rw [List.eraseDups_cons]
    refine List.nodup_cons.mpr ⟨fun z => ?_, dups_nodup n _ (Nat.le_trans (List.length_filter_le _ _) (Nat.le_of_succ_le_succ h))⟩
    have := (List.mem_filter.mp (List.mem_eraseDups.mp z)).2
    simp at this
theorem intTup_eq {d : D} {ns : List Int} (h : intTup d = some ns) : d = tupI ns := by
  cases d <;> simp only [intTup] at h <;> try (cases h; done)
  rename_i xs
  unfold tupI
  congr 1
  induction xs generalizing ns with
  | nil => cases h; rfl
  | cons x xs ih =>
    cases x <;> simp only [intsD] at h <;> try (cases h; done)
    obtain ⟨ms, e, rfl⟩ := Option.map_eq_some_iff.mp h
    rw [List.map_cons, ih e]
theorem intTup_tupI (ns : List Int) : intTup (tupI ns) = some ns := by
  show intsD _ = _
  induction ns with
  | nil => rfl
  | cons n ns ih =>
    show (intsD _).map _ = _
    rw [ih]; rfl
section
variable {K : PySem.W.Frag} {mg : Str → Option Value} {st : StA} {H : Hp} {A : Addr → Prop}
theorem rep_tupI {v : V} {ns : List Int} (r : Rep K mg st H A v (tupI ns)) : ∃ a, v = .ref a ∧ SqT K H a (ns.map V.int) := by
  have h := intTup_tupI ns
  unfold tupI at r h
  cases r with
  | tup n h1 o r => exact ⟨_, rfl, ints_vs r h ▸ SqT.ofF h1⟩
  | tupK h1 o r => exact ⟨_, rfl, ints_vs r h ▸ SqT.ofK h1⟩
theorem set_reps : ∀ {vs : List V} {ds : List D}, Reps K mg st H A vs ds → (∀ d ∈ ds, ∃ n ns, intTup d = some (n :: ns)) → ∃ ks : List (Addr × List Int), vs = ks.map (fun p => V.ref p.1) ∧ ds = ks.map (fun p => tupI p.2) ∧ ∀ p ∈ ks, p.2 ≠ []
  | _, _, .nil, _ => ⟨[], rfl, rfl, fun p h => nomatch h⟩
  | _, _, .cons (d := d) r t, h => by
    obtain ⟨n, ns, e⟩ := h d List.mem_cons_self
    obtain ⟨ks, rfl, rfl, h3⟩ := set_reps t fun d hd => h d (List.mem_cons_of_mem _ hd)
    obtain rfl := intTup_eq e
    obtain ⟨a, rfl, _⟩ := rep_tupI r
    refine ⟨(a, n :: ns) :: ks, rfl, rfl, fun p hp => ?_⟩
    rcases List.mem_cons.mp hp with rfl | hq
    · exact List.cons_ne_nil _ _
    · exact h3 p hq
theorem reps_sq {ks : List (Addr × List Int)} (r : Reps K mg st H A (ks.map fun p => V.ref p.1) (ks.map fun p => tupI p.2)) : ∀ p ∈ ks, Rep K mg st H A (.ref p.1) (tupI p.2) := by
  induction ks with
  | nil => exact fun p h => nomatch h
  | cons k ks ih =>
    intro p hp
    cases r with
    | cons r t =>
      rcases List.mem_cons.mp hp with rfl | hq
      · exact r
      · exact ih t p hq
theorem reps_of {ks : List (Addr × List Int)} (h : ∀ p ∈ ks, Rep K mg st H A (.ref p.1) (tupI p.2)) : Reps K mg st H A (ks.map fun p => V.ref p.1) (ks.map fun p => tupI p.2) := by
  induction ks with
  | nil => exact .nil
  | cons k ks ih => exact .cons (h k List.mem_cons_self) (ih fun p hp => h p (List.mem_cons_of_mem _ hp))
theorem sq_of (r : Rep K mg st H A (.ref a) (tupI k)) : SqT K H a (k.map V.int) := by
  obtain ⟨b, e, h⟩ := rep_tupI r
  cases e
  exact h
end
section
variable {X : Cx} {E : XK} {a : Expr} {m : M D} {p1 p2 q pos : Pos} {k : Nat}
theorem re_sortSet (c : Ctx X E k) (hg : Gl X "sorted") (hm : X.mg "sorted" = none) (hg2 : Gl X "set") (hm2 : X.mg "set" = none) (ha : RQ X E a m) (hs : starEach [a] X.env = (false, eval a X.env) :: starEach [] X.env := by rfl)
    (hs2 : starEach [.Call (.Name "set" p2) [a] [] q] X.env = (false, eval (.Call (.Name "set" p2) [a] [] q) X.env) :: starEach [] X.env := by rfl) :
    RE X E (.Call (.Name "sorted" p1) [.Call (.Name "set" p2) [a] [] q] [] pos) (mB1 m dSortSet) := by
  have un := c.room.un
  refine PEimp (pe_callB (cr_st c.calm (by omega)) hg hm PyProof.Rows.boot_sorted (pa_cons (pe_callTy (cr_mk c.calm (by omega)) hg2 hm2 (by decide +kernel) (pa_cons ha pa_nil hs) (he := hs)) pa_nil hs2) (he := hs2)) fun σ H Q h => ?_
  refine tG_mono (tG_bnd (R1 := RfQ X.K X.mg) h) fun x H1 h1 => ?_
  obtain ⟨O, st, ρ, S, d, d', s, ra, e, g⟩ := tG1_lft h1
  unfold dSortSet at e
  split at e <;> try (cases e; done)
  rename_i ds
  split at e <;> try (cases e; done)
  rename_i ok
  cases e
  obtain ⟨p, vs, rfl, sq, r⟩ := q_tup ra
  unfold setOk at ok
  obtain ⟨okA, okB⟩ := Bool.and_eq_true_iff.mp ok
  obtain ⟨ks, rfl, rfl, ne⟩ := set_reps r fun d hd => by
    have := List.all_eq_true.mp okA d hd
    split at this
    · rename_i n ns e; exact ⟨n, ns, e⟩
    · cases this
  have few : ks.length < 4000 := by simpa using okB
  have rk := reps_sq r
  refine ⟨p, ks, rfl, sq, fun z hz => sq_of (rk z hz), by omega, fun b L no sub all ones len => ?_⟩
  have f1 : FrE st H1 (upd H1 b (SetO X.prog X.w b L)) := FrE.laid no
  have s2 := s.ext f1 (s.state.laid no)
  have rk2 := fun z hz => (rk z hz).frm f1.frm
  refine ⟨b, L, rfl, upd_same, fun z hz => sq_of (rk2 z (sub z hz)), fun z hz => ne z (sub z hz), by omega, fun t L' no' keys sub' => ?_⟩
  have rl := reps_of fun z hz => rk2 z (sub z (sub' z hz))
  have same : (L'.map fun z => tupI z.2) = sortSet (ks.map fun z => tupI z.2) := by
    have e1 : (ks.map fun z => tupI z.2).filterMap intTup = ks.map (·.2) := by
      rw [List.filterMap_map, ← List.filterMap_eq_map]
      congr 1
      funext z
      exact intTup_tupI z.2
    have pm : (L.map (·.2)).Perm (ks.map (·.2)).eraseDups := by
      refine (List.perm_ext_iff_of_nodup ones (dups_nodup _ _ (Nat.le_refl _))).mpr fun x => ⟨fun hx => ?_, fun hx => ?_⟩
      · obtain ⟨z, hz, rfl⟩ := List.mem_map.mp hx
        exact List.mem_eraseDups.mpr (List.mem_map.mpr ⟨z, sub z hz, rfl⟩)
      · obtain ⟨z, hz, rfl⟩ := List.mem_map.mp (List.mem_eraseDups.mp hx)
        exact all z hz
    unfold sortSet
    rw [e1, ← sort_same pm, ← keys, List.map_map]
    rfl
  rw [← same] at g
  exact g _ _ (f1.trans (FrE.laid no')) (s2.state.laid no') (s2.mkL rl no')
end
end Pf
end

section
set_option Elab.async false
set_option linter.all false
set_option maxRecDepth 100000
namespace Pf
open PySem PySem.Spec PyProof.Rows L2 PySem.W

/-! ### the facts behind the top, brought together -/
/-- a def of the text as it stands behind the top -/
structure DefAt (K : Frag) (mg : Str → Option Value) (x : Str) (st : Stmt) (ps : List Str) (cd : Value) : Prop where
  ex : ∃ (f : Addr) (fd : FuncData), mg x = some (.ref f) ∧ Fun K x x st f fd ∧ Binds K fd ps [] ∧ fd.code = cd
section
variable {K : Frag} {h : Heap} {mg : Str → Option Value} {prog : Program}
theorem def_mk {x : Str} {st : Stmt} {ps : List Str} {f : Addr} {oc kV doc pm cd ct : Value} {od an : Option Addr} {sl : Array (Option Value)} (X : K.In h) (G : h.Ns mainGlobals mg)
    (a : nsIn K mainGlobals x = some (some (.ref f))) (l : K.lookup f = some ⟨oc, od, .func (fnOf x x (defArgs st) (defBody st) (defScope st) .none kV doc pm an cd ct), sl⟩) (c : codeIn K cd x = true) (k : keepIn K (.ref f) = true)
    (b : ∀ (kV doc pm : Value) (an : Option Addr) (cdv ct : Value) (us : List Value), us.length = ps.length → bindArgs (fnOf x x (defArgs st) (defBody st) (defScope st) .none kV doc pm an cdv ct) ⟨us, []⟩ = pure (ps.zip us)) : DefAt K mg x st ps cd := by
  have F := fun_mk (x := x) (qual := x) (st := st) l c k
  exact ⟨f, _, mg_of X G a, F, F.binds b, rfl⟩
theorem isExc1_mk {c f p : Str} {C fI cda cc N : Addr} {nm q qual file : Str} {bs bm sub : List Value} {sn : List Str} {ab : Bool} {col : Option Bool} {dd od od2 od3 an : Option Addr} {k0 k1 k2 k3 k5 : Option Value} {oc oc2 oc3 dV kV doc pm ct : Value} {sl sl2 sl3 : Array (Option Value)} {params : Arguments} {scope : Scope} {vs : Array Value} {tf : Tok} {p0 p1 p2 p3 p4 p5 p6 p7 p8 p9 : Pos}
    (X : K.In h) (G : h.Ns mainGlobals mg) (aC : nsIn K mainGlobals c = some (some (.ref C)))
    (xL : K.lookup C = some (excClassObj nm q C N bs bm true sn sub ab col dd k0 k1 k2 k3 k5 "ValueError.__new__"))
    (ini : findIn K (.ref C) "__init__" = some (some (.ref fI)))
    (lF : K.lookup fI = some ⟨oc, od, .func (ksFn "__init__" qual params [.Expr (.Call (.Attribute (.Call (.Name "super" p0) [] [] p1) "__init__" p2) [.Name p p3] [] p4) p5, .Assign [.Attribute (.Name "self" p6) f p7] (.Name p p8) p9] scope dV kV doc pm an (.ref cda) ct cc), sl⟩)
    (lC : K.lookup cda = some ⟨oc2, od2, .fields vs, sl2⟩) (lc : K.lookup cc = some ⟨oc3, od3, .cell (some (.ref C)), sl3⟩) (hv : vs[2]? = some (.str file tf))
    (rb : PySem.HandSPX.refsVE bm = true) (sa : findIn K (.ref C) "__setattr__" = some (some (.builtin "object.__setattr__"))) (exC : subIn K (.ref C) (.type "BaseException") = some true) (tyC : typeIn K (.ref C) = some (.type "type")) (kC : keepIn K (.ref C) = true)
    (tyI : typeIn K (.ref fI) = some (.type "function")) (no : findIn K (.ref C) f = some none) (sup : nsIn K mainGlobals "super" = some none) (top : (prog.main.scope.names.lookup ("super" : Str)).isSome = false)
    (any : nsIn K cStatics "thirdparty.any" = some none) (bas : ks_superIn K C C "__init__" = some (some (.builtin "ValueError.__init__"))) (val : subIn K (.ref C) (.type "ValueError") = some true) (slf : mroIn K C (.ref C) = some true)
    (cq : codeIn K (.ref cda) qual = true) (hf : ((prog.main.file : Str) == file) = true) (hpo : params.posonlyargs = []) (har : ∃ ar, params.args.head? = some ar ∧ ar.arg = "self")
    (hb : ∀ u v : Value, bindArgs (ksFn "__init__" qual params [.Expr (.Call (.Attribute (.Call (.Name "super" p0) [] [] p1) "__init__" p2) [.Name p p3] [] p4) p5, .Assign [.Attribute (.Name "self" p6) f p7] (.Name p p8) p9] scope dV kV doc pm an (.ref cda) ct cc) ⟨[u, v], []⟩ = pure [(("self" : Str), u), (p, v)])
    (s1 : scope.names.lookup ("super" : Str) = some .globalImplicit) (s2 : scope.names.lookup ("__class__" : Str) = some .free) (s3 : scope.names.lookup ("self" : Str) = some .local) (s4 : scope.names.lookup p = some .local) (s5 : scope.kind = .function) (s6 : scope.isCoroutine = false) (s7 : scope.isGenerator = false)
    (s8 : ∀ x ∈ scope.names, x.2 ≠ .cell) (d1 : (p == ("__debug__" : Str)) = false) (d2 : ¬ ("self" : Str) = p)
    (hev : ∀ env : Env, ∃ pl : Sem Bool, eval (.Call (.Attribute (.Call (.Name "super" p0) [] [] p1) "__init__" p2) [.Name p p3] [] p4) env = (do
      let ov ← attributeBase (.Call (.Name "super" p0) [] [] p1) "__init__" env (eval (.Call (.Name "super" p0) [] [] p1) env)
      standAt p2.atName
      let (f, first) ← holding [ov] (getMethod ov "__init__" pl)
      callWith p4 f first (backTo p4 (starEach [.Name p p3] env)) [])) : IsExc1 prog K mg c f :=
  ⟨C, fI, p, ⟨⟨nm, q, N, bs, bm, sn, sub, ab, col, dd, k0, k1, k2, k3, k5, xL, rb⟩, sa, exC, tyC, kC⟩, mg_of X G aC, ini, tyI, no, mg_none_of X G sup, top, any, bas, val, slf,
    oc, oc2, oc3, od, od2, od3, sl, sl2, sl3, qual, params, scope, dV, kV, doc, pm, ct, an, cda, cc, vs, file, tf, p0, p1, p2, p3, p4, p5, p6, p7, p8, p9, lF, cq, lC, hv, hf, lc, hpo, har, hb, s1, s2, s3, s4, s5, s6, s7, s8, d1, d2, hev⟩
theorem isExc0_mk {c : Str} {C : Addr} {bmB : List Value} {B newId initId : String} (X : K.In h) (G : h.Ns mainGlobals mg) (aC : nsIn K mainGlobals c = some (some (.ref C))) (F : ExcBaseFacts B newId initId bmB) (x : excIn K C bmB newId = true)
    (kC : keepIn K (.ref C) = true) (exC : subIn K (.ref C) (.type "BaseException") = some true) (tyC : typeIn K (.ref C) = some (.type "type")) : IsExc0 K mg c :=
  ⟨C, bmB, B, newId, initId, F, x, mg_of X G aC, kC, exC, tyC⟩
theorem excOf_mk {c : Str} {C : Addr} (X : K.In h) (G : h.Ns mainGlobals mg) (aC : nsIn K mainGlobals c = some (some (.ref C))) (cl : isClsIn K C = true)
    (hg : findIn K (.ref C) "__getattribute__" = some (some (.builtin "BaseException.__getattribute__"))) (hk : findIn K (.ref C) "__getattr__" = some none) (hs : subIn K (.ref C) (.type "BaseException") = some true) (hd : hasDictIn K C = true)
    (ha : findIn K (.ref C) "__class__" = some (some (.builtin "object.__class__"))) (hn : specialIn K (.builtin "object.__class__") "__get__" = some (some (.builtin "getset_descriptor.__get__"))) (ht : takesIn K (.builtin "object.__class__") = some true) (hm : mroIn K C (.type "object") = some true)
    (nn : kitOne K (.type "NoneType") (.ref C) = some false) : ExcOf K mg C c := ⟨mg_of X G aC, cl, ⟨hg, hk, hs, hd, ha, hn, ht, hm⟩, nn⟩
end

section
variable {K : Frag} {h : Heap} {mg : Str → Option Value}
inductive ExL (K : Frag) (mg : Str → Option Value) : List (Addr × Str) → Prop
  | nil : ExL K mg []
  | cons {C : Addr} {c : Str} {r : List (Addr × Str)} : ExcOf K mg C c → ExL K mg r → ExL K mg ((C, c) :: r)
theorem ExL.mem {L : List (Addr × Str)} (h : ExL K mg L) : ∀ p ∈ L, ExcOf K mg p.1 p.2 := by
  induction h with
  | nil => intro p hp; cases hp
  | cons o _ ih =>
    intro p hp
    rcases List.mem_cons.mp hp with e | hp
    · rw [e]; exact o
    · exact ih p hp
theorem excT_mk {L : List (Addr × Str)} {cs : List Str} (h : ExL K mg L) (hcs : L.map (·.2) = cs) (rel : (L.all fun p => L.all fun q => kitOne K (.ref p.1) (.ref q.1) == some (decide (p.2 = q.2))) = true) : ExcT K mg cs := by
  subst hcs
  have hm := h.mem
  refine ⟨fun c hc => ?_, fun c d hc hd C D e1 e2 => ?_⟩
  · obtain ⟨p, hp, rfl⟩ := List.mem_map.mp hc
    exact ⟨p.1, hm p hp⟩
  · obtain ⟨p, hp, rfl⟩ := List.mem_map.mp hc
    obtain ⟨q, hq, rfl⟩ := List.mem_map.mp hd
    have a1 := (hm p hp).at_
    have a2 := (hm q hq).at_
    rw [e1] at a1
    rw [e2] at a2
    cases a1
    cases a2
    exact beq_iff_eq.mp (List.all_eq_true.mp (List.all_eq_true.mp rel p hp) q hq)
theorem exm_mk {L : List (Addr × Str)} {cs : List Str} {CP : Addr} (h : ExL K mg L) (hcs : L.map (·.2) = cs) (e : (L.all fun p => exmOne K (.ref p.1) (.ref CP) == some true) = true) : ∀ c ∈ cs, ∀ C, mg c = some (.ref C) → exmOne K (.ref C) (.ref CP) = some true := by
  subst hcs
  intro c hc C e1
  obtain ⟨p, hp, rfl⟩ := List.mem_map.mp hc
  have a1 := (h.mem p hp).at_
  rw [e1] at a1
  cases a1
  exact beq_iff_eq.mp (List.all_eq_true.mp e p hp)
theorem nof_mk {C : Addr} {c f : Str} (o : ExcOf K mg C c) (e : findIn K (.ref C) f = some none) : ∀ C', mg c = some (.ref C') → findIn K (.ref C') f = some none := fun C' z => by
  have a := o.at_
  rw [z] at a
  cases a
  exact e
/-- a def that makes lambdas: its code object, its table -/
structure TabAt (K : Frag) (h : Heap) (t : Addr × Addr × Str) : Prop where
  hd : CodeHd h t.1 t.2.1
  at_ : h.get? t.2.1 = some { cls := .none, data := .fields #[] }
  no : K.lookup t.2.1 = none
theorem tab_mk {x : Str} {st : Stmt} {ps : List Str} {c P : Addr} {oc : Value} {od : Option Addr} {vs : Array Value} {sl : Array (Option Value)} {ts : List Addr} (d : DefAt K mg x st ps (.ref c)) (X : K.In h) (hT : ∀ P ∈ ts, h.get? P = some (tabObj #[]))
    (l : K.lookup c = some ⟨oc, od, .fields vs, sl⟩) (hv : vs[11]? = some (.ref P)) (hc : codeHdIn K c P = true) (hm : P ∈ ts) (nk : K.lookup P = none) : TabAt K h (c, P, x) := ⟨codeHd_of_K X hc, hT P hm, nk⟩
inductive TabL (K : Frag) (h : Heap) : List (Addr × Addr × Str) → Prop
  | nil : TabL K h []
  | cons {t : Addr × Addr × Str} {r : List (Addr × Addr × Str)} : TabAt K h t → TabL K h r → TabL K h (t :: r)
theorem TabL.mem {L : List (Addr × Addr × Str)} (z : TabL K h L) : ∀ p ∈ L, TabAt K h p := by
  induction z with
  | nil => intro p hp; cases hp
  | cons o _ ih =>
    intro p hp
    rcases List.mem_cons.mp hp with e | hp
    · rw [e]; exact o
    · exact ih p hp
def tbOf (L : List (Addr × Addr × Str)) : List (Addr × Str) := L.map fun t => (t.2.1, t.2.2 ++ ".<locals>." ++ "<lambda>")
theorem nodup_at {L : List (Addr × Addr × Str)} (nd : (L.map (·.2.1)).Nodup) {t u : Addr × Addr × Str} (ht : t ∈ L) (hu : u ∈ L) (e : t.2.1 = u.2.1) : t = u := by
  induction L with
  | nil => cases ht
  | cons z L ih =>
    rw [List.map_cons, List.nodup_cons] at nd
    rcases List.mem_cons.mp ht with e1 | ht
    · rcases List.mem_cons.mp hu with e2 | hu
      · rw [e1, e2]
      · exact absurd (List.mem_map.mpr ⟨u, hu, by rw [← e, e1]⟩) nd.1
    · rcases List.mem_cons.mp hu with e2 | hu
      · exact absurd (List.mem_map.mpr ⟨t, ht, by rw [e, e2]⟩) nd.1
      · exact ih nd.2 ht hu
theorem lawAt_mk {l : OpenLaw} {w : World} {fa : Addr} {L : List (Addr × Addr × Str)} {lev : Nat} {sc nm : Str} (TL : TabL K h L) (nd : (L.map (·.2.1)).Nodup) (hmg : mg nm = some (.ref fa))
    (F : ∀ inst : TabsC, ∃ (f : Addr) (fd : FuncData), mg nm = some (.ref f) ∧ (∀ (s : Shared) (u : Value), BindsTo s fd ⟨[u], []⟩ [(sc, u)]) ∧ (inst.tb = tbOf L → ∀ base : Heap, (∀ t ∈ L, TabF base mg t.1 t.2.2) → FnOk l.prog w K mg base (L2.CX l.prog w) lev f fd [sc] (spLaw K))) :
    LamX.LawAtS l w K (L2.CX l.prog w) lev 63 sc mg fa h := by
  obtain ⟨f, fd, h1, h2, h3⟩ := F ⟨tbOf L⟩
  rw [hmg] at h1
  cases h1
  have hm := TL.mem
  have mem : ∀ p ∈ L.map (fun t => (t.1, t.2.1)), ∃ t ∈ L, p = (t.1, t.2.1) := fun p hp => by
    obtain ⟨t, ht, e⟩ := List.mem_map.mp hp
    exact ⟨t, ht, e.symm⟩
  refine ⟨fd, L.map (fun t => (t.1, t.2.1)), @spLaw ⟨tbOf L⟩ K, fun p hp => ?_, fun p hp => ?_, fun p hp => ?_, h2, fun H a ns hl _ ht hs => ?_, fun base hk hn ht => ?_⟩
  · obtain ⟨t, ht, rfl⟩ := mem p hp
    exact (hm t ht).at_
  · obtain ⟨t, ht, rfl⟩ := mem p hp
    exact (hm t ht).no
  · obtain ⟨t, ht, rfl⟩ := mem p hp
    exact (hm t ht).hd
  · letI : TabsC := ⟨tbOf L⟩
    refine ⟨a, ns, rfl, hl, hs, fun p hp => ?_, fun _ => rfl⟩
    obtain ⟨t, htm, rfl⟩ := List.mem_map.mp (show p ∈ L.map _ from hp)
    exact ht (t.1, t.2.1) (List.mem_map.mpr ⟨t, htm, rfl⟩)
  · letI : TabsC := ⟨tbOf L⟩
    refine h3 rfl base fun t htm => ⟨t.2.1, ht (t.1, t.2.1) (List.mem_map.mpr ⟨t, htm, rfl⟩), List.mem_map.mpr ⟨t, htm, rfl⟩, fun p hp e => ?_⟩
    obtain ⟨u, hu, rfl⟩ := List.mem_map.mp (show p ∈ L.map _ from hp)
    have eu := nodup_at nd hu htm e
    rw [eu]
end
end Pf
end

section
set_option Elab.async false
set_option linter.all false
set_option maxRecDepth 100000
namespace Pf
open PySem PySem.Spec L2
/-! ### what does not look at the state of the draws -/
def Res.st {α : Type} (r : Res α) (S : DS) : Res α := match r with
  | .ok a _ => .ok a S
  | .exc x _ => .exc x S
  | .bad => .bad
def RS.st (r : RS) (S : DS) : RS := match r with
  | .nx ρ _ => .nx ρ S
  | .rt d _ => .rt d S
  | .bk ρ _ => .bk ρ S
  | .ct ρ _ => .ct ρ S
  | .exc x _ => .exc x S
  | .bad => .bad
class Pu {α : Type} (m : M α) : Prop where
  pu : ∀ ρ S S', m ρ S' = (m ρ S).st S'
class PuS (m : MS) : Prop where
  pu : ∀ ρ S S', m ρ S' = (m ρ S).st S'
class PuF (f : List D → DS → Res D) : Prop where
  pu : ∀ ds S S', f ds S' = (f ds S).st S'
section
variable {α β γ : Type}
instance (m : M α) (f : α → M β) [h : Pu m] [k : ∀ a, Pu (f a)] : Pu (bnd m f) := ⟨fun ρ S S' => by
  unfold bnd
  rw [h.pu ρ S S']
  cases m ρ S with
  | ok a S1 => exact (k a).pu ρ S1 S'
  | exc => rfl
  | bad => rfl⟩
instance (a : α) : Pu (ret a) := ⟨fun _ _ _ => rfl⟩
instance : Pu (bad : M α) := ⟨fun _ _ _ => rfl⟩
instance (o : Option α) : Pu (lft o) := ⟨fun _ _ _ => by cases o <;> rfl⟩
instance (c : Prop) [Decidable c] (a b : M α) [h : Pu a] [k : Pu b] : Pu (if c then a else b) := by split <;> assumption
instance (c : Prop) [Decidable c] (a b : MS) [h : PuS a] [k : PuS b] : PuS (if c then a else b) := by split <;> assumption
instance (i : Nat) : Pu (mVar i) := ⟨fun ρ S S' => by unfold mVar; split <;> rfl⟩
instance (i : Nat) : Pu (mOwn i) := ⟨fun ρ S S' => by unfold mOwn; split <;> rfl⟩
instance (a : M α) (b : M β) (k : α → β → M γ) [Pu a] [Pu b] [∀ x y, Pu (k x y)] : Pu (bn2 a b k) := by unfold bn2; infer_instance
instance (m : M D) [Pu m] : Pu (mVal m) := by unfold mVal; infer_instance
instance (m : M (List D)) [Pu m] : Pu (mOwnL m) := by unfold mOwnL; infer_instance
instance (d : D) : Pu (asB d) := by unfold asB; split <;> infer_instance
instance (d : D) : Pu (asL d) := by unfold asL; split <;> infer_instance
instance (d : D) : Pu (asLst d) := by unfold asLst; split <;> infer_instance
instance (d e : D) : Pu (catL d e) := by unfold catL; split <;> infer_instance
instance (d e : D) : Pu (repL d e) := by unfold repL; split <;> infer_instance
instance (b : Bool) : Pu (bB b) := by unfold bB; infer_instance
instance (ma mb mc : M D) (f g : D → D → Option Bool) [Pu ma] [Pu mb] [Pu mc] : Pu (mChain ma mb mc f g) := by unfold mChain; infer_instance
instance (a b : M Bool) [Pu a] [Pu b] : Pu (mAndT a b) := by unfold mAndT; infer_instance
instance (a b : M Bool) [Pu a] [Pu b] : Pu (mOrT a b) := by unfold mOrT; infer_instance
instance (a : M Bool) [Pu a] : Pu (mNotT a) := by unfold mNotT; infer_instance
theorem pu_bnd (m : M α) (f : α → M β) (h : Pu m) (k : ∀ a, Pu (f a)) : Pu (bnd m f) := inferInstance
instance (a b : M D) [Pu a] [Pu b] : Pu (mAnd a b) := pu_bnd _ _ inferInstance fun d => by split <;> infer_instance
instance (a b : M D) [Pu a] [Pu b] : Pu (mOr a b) := pu_bnd _ _ inferInstance fun d => by split <;> infer_instance
instance (a : M D) [Pu a] : Pu (mNot a) := pu_bnd _ _ inferInstance fun d => by split <;> infer_instance
instance (c : M Bool) (a b : M α) [Pu c] [Pu a] [Pu b] : Pu (mIf c a b) := by unfold mIf; infer_instance
instance (a : M D) (b : M (List D)) [Pu a] [Pu b] : Pu (mCons a b) := by unfold mCons; infer_instance
instance (b : M (List D)) [Pu b] : Pu (mTup b) := by unfold mTup; infer_instance
instance (b : M (List D)) [Pu b] : Pu (mLst b) := by unfold mLst; infer_instance
instance (a : M D) [Pu a] : Pu (mPart a) := pu_bnd _ _ inferInstance fun d => by split <;> infer_instance
instance (a : M D) (b c : M (Option Int)) [Pu a] [Pu b] [Pu c] : Pu (mSl a b c) := by unfold mSl; infer_instance
instance (a : M D) (f : D → Option D) [Pu a] : Pu (mB1 a f) := by unfold mB1; infer_instance
instance (a : M D) [Pu a] : Pu (mEnum a) := pu_bnd _ _ inferInstance fun d => by split <;> infer_instance
theorem pu_bn2 (a : M α) (b : M β) (k : α → β → M γ) (_ : Pu a) (_ : Pu b) (_ : ∀ x y, Pu (k x y)) : Pu (bn2 a b k) := inferInstance
instance (a b : M D) [Pu a] [Pu b] : Pu (mZip a b) := pu_bn2 _ _ _ inferInstance inferInstance fun d e => by split <;> infer_instance
instance (a b : M D) [Pu a] [Pu b] : Pu (mRngD a b) := pu_bn2 _ _ _ inferInstance inferInstance fun d e => by split <;> infer_instance
instance (a b : M D) [Pu a] [Pu b] : Pu (mRng2 a b) := pu_bn2 _ _ _ inferInstance inferInstance fun d e => by split <;> infer_instance
instance (a : M D) [Pu a] : Pu (mRng1 a) := pu_bnd _ _ inferInstance fun d => by split <;> infer_instance
instance (a b : M D) [Pu a] [Pu b] : Pu (mIdx a b) := pu_bnd _ _ inferInstance fun d => by split <;> infer_instance
instance (p : Bool) (i : Nat) (m : M D) [Pu m] : Pu (mDin p i m) := pu_bnd _ _ inferInstance fun d => ⟨fun ρ S S' => by (try dsimp only); split <;> rfl⟩
instance (i : Nat) (m : M D) [Pu m] : Pu (mDget i m) := ⟨fun ρ S S' => by
  unfold mDget
  cases kvOf ρ i with
  | none => rfl
  | some kd => exact (pu_bnd m _ inferInstance fun d => by
      split
      · split <;> infer_instance
      · infer_instance : Pu _).pu ρ S S'⟩
instance (i : Nat) : Pu (mDlen i) := ⟨fun ρ S S' => by unfold mDlen; split <;> rfl⟩
instance (i : Nat) : Pu (mKeys i) := ⟨fun ρ S S' => by unfold mKeys; split <;> rfl⟩
instance (i : Nat) (m : M (List D)) [h : Pu m] : Pu (mLock i m) := ⟨fun ρ S S' => by
  unfold mLock
  cases ρ[i]? with
  | none => rfl
  | some x => cases x <;> try rfl
              rename_i kd
              try dsimp only
              rw [h.pu _ S S']
              cases m (ρ.set i (.lckd kd)) S <;> rfl⟩
theorem lcLoop_pu (vs : List Nat) (g : GP) (tt : M Bool) (te : M D) [h : Pu tt] [k : Pu te] : ∀ (l : List D) (ρ : En) (S S' : DS), lcLoop vs g tt te l ρ S' = (lcLoop vs g tt te l ρ S).st S'
  | [], _, _, _ => rfl
  | x :: xs, ρ, S, S' => by
    unfold lcLoop
    cases g x (wipeE ρ vs) with
    | none => rfl
    | some ρ1 =>
      try dsimp only
      rw [h.pu ρ1 S S']
      cases tt ρ1 S with
      | bad => rfl
      | exc => rfl
      | ok b S1 =>
        cases b with
        | false => exact lcLoop_pu vs g tt te xs ρ S1 S'
        | true =>
          show (match te ρ1 S' with | .ok d S2 => _ | _ => Res.bad) = _
          rw [k.pu ρ1 S1 S']
          try dsimp only
          cases te ρ1 S1 with
          | bad => rfl
          | exc => rfl
          | ok d S2 =>
            dsimp only [Res.st]
            rw [lcLoop_pu vs g tt te xs ρ S2 S']
            cases lcLoop vs g tt te xs ρ S2 <;> rfl
instance (mi : M (List D)) (vs : List Nat) (g : GP) (tt : M Bool) (te : M D) [Pu mi] [Pu tt] [Pu te] : Pu (mLc mi vs g tt te) := pu_bnd _ _ inferInstance fun its => ⟨fun ρ S S' => by
  try dsimp only
  split
  · exact lcLoop_pu vs g tt te its ρ S S'
  · rfl⟩
instance (n : Nat) (ms : M (List D)) (m : List D → DS → Res D) [Pu ms] [h : PuF m] : Pu (mCall n ms m) := pu_bnd _ _ inferInstance fun ds => by
  split
  · exact ⟨fun _ S S' => h.pu ds S S'⟩
  · infer_instance
instance (perm : List Nat) (ms : M (List D)) (m : List D → DS → Res D) [Pu ms] [h : PuF m] : Pu (mCallK perm ms m) := pu_bnd _ _ inferInstance fun ds => by
  split
  · exact ⟨fun _ S S' => h.pu _ S S'⟩
  · infer_instance
instance (cs : List Str) (m : M D) [h : Pu m] : Pu (mCauL cs m) := ⟨fun ρ S S' => by
  unfold mCauL
  rw [h.pu (ρ.map hid) S S']
  cases m (ρ.map hid) S with
  | ok => rfl
  | bad => rfl
  | exc x S1 => obtain ⟨c, p⟩ := x; simp only [Res.st, rCau]; split <;> rfl⟩
/-! ### statements -/
instance (m : M α) (k : α → MS) [h : Pu m] [q : ∀ a, PuS (k a)] : PuS (sE m k) := ⟨fun ρ S S' => by
  unfold sE
  rw [h.pu ρ S S']
  cases m ρ S with
  | ok a S1 => exact (q a).pu ρ S1 S'
  | exc => rfl
  | bad => rfl⟩
theorem pu_sE (m : M α) (k : α → MS) (_ : Pu m) (_ : ∀ a, PuS (k a)) : PuS (sE m k) := inferInstance
instance (i : Nat) (d : D) : PuS (sSet i d) := ⟨fun _ _ _ => rfl⟩
instance (i : Nat) (d : List D) : PuS (sOwn i d) := ⟨fun _ _ _ => by unfold sOwn; split <;> rfl⟩
instance (i : Nat) : PuS (sOwnD0 i) := ⟨fun _ _ _ => by unfold sOwnD0; split <;> rfl⟩
instance (i : Nat) (d : SD) : PuS (sPut i d) := ⟨fun _ _ _ => by unfold sPut; split <;> rfl⟩
instance : PuS sNil := ⟨fun _ _ _ => rfl⟩
instance : PuS sBad := ⟨fun _ _ _ => rfl⟩
instance : PuS (fun _ _ => .bad) := ⟨fun _ _ _ => rfl⟩
instance (d : D) : PuS (sRt d) := ⟨fun _ _ _ => rfl⟩
instance (a b : MS) [h : PuS a] [q : PuS b] : PuS (sSeq a b) := ⟨fun ρ S S' => by
  unfold sSeq
  rw [h.pu ρ S S']
  cases a ρ S with
  | nx ρ1 S1 => exact q.pu ρ1 S1 S'
  | rt => rfl
  | bk => rfl
  | ct => rfl
  | exc => rfl
  | bad => rfl⟩
instance (c : M Bool) (a b : MS) [Pu c] [PuS a] [PuS b] : PuS (sIf c a b) := by unfold sIf; infer_instance
instance (m : M D) [Pu m] : PuS (sDrop m) := by unfold sDrop; infer_instance
instance (c f : Str) (m : M D) [Pu m] : PuS (sRaise1 c f m) := pu_sE _ _ inferInstance fun d => ⟨fun _ _ _ => rfl⟩
instance (c : Str) : PuS (sRaise0 c) := ⟨fun _ _ _ => rfl⟩
instance (ma mb : M SD) (i j : Nat) [Pu ma] [Pu mb] : PuS (mTwo ma mb i j) := pu_sE _ _ inferInstance fun s => pu_sE _ _ inferInstance fun t => ⟨fun ρ S S' => by (try dsimp only); split <;> rfl⟩
theorem forLoop_pu (g : GP) (b : MS) [h : PuS b] : ∀ (l : List D) (ρ : En) (S S' : DS), forLoop g b l ρ S' = (forLoop g b l ρ S).st S'
  | [], _, _, _ => rfl
  | x :: xs, ρ, S, S' => by
    unfold forLoop
    cases g x ρ with
    | none => rfl
    | some ρ1 =>
      try dsimp only
      rw [h.pu ρ1 S S']
      cases b ρ1 S with
      | nx ρ2 S2 => exact forLoop_pu g b xs ρ2 S2 S'
      | ct ρ2 S2 => exact forLoop_pu g b xs ρ2 S2 S'
      | bk => rfl
      | rt => rfl
      | exc => rfl
      | bad => rfl
instance (mi : M (List D)) (g : GP) (b : MS) [Pu mi] [PuS b] : PuS (sFor mi g b) := pu_sE _ _ inferInstance fun its => ⟨fun ρ S S' => forLoop_pu g b its ρ S S'⟩
theorem whileN_pu (t : M Bool) (b : MS) [h : Pu t] [k : PuS b] : ∀ (n : Nat) (ρ : En) (S S' : DS), whileN t b n ρ S' = (whileN t b n ρ S).st S'
  | 0, _, _, _ => rfl
  | n + 1, ρ, S, S' => by
    unfold whileN
    rw [h.pu ρ S S']
    cases t ρ S with
    | bad => rfl
    | exc => rfl
    | ok c S1 =>
      cases c with
      | false => rfl
      | true =>
        dsimp only [Res.st]
        rw [k.pu ρ S1 S']
        cases b ρ S1 with
        | nx ρ2 S2 => exact whileN_pu t b n ρ2 S2 S'
        | ct ρ2 S2 => exact whileN_pu t b n ρ2 S2 S'
        | bk => rfl
        | rt => rfl
        | exc => rfl
        | bad => rfl
instance (n : Nat) (t : M Bool) (b : MS) [Pu t] [PuS b] : PuS (sWhile n t b) := ⟨fun ρ S S' => whileN_pu t b n ρ S S'⟩
instance (i : Nat) (m : M D) [Pu m] : PuS (sApp i m) := ⟨fun ρ S S' => by
  unfold sApp
  split
  · exact (pu_sE m _ inferInstance fun d => ⟨fun ρ S S' => by (try dsimp only); split <;> rfl⟩ : PuS _).pu ρ S S'
  · rfl⟩
instance (i : Nat) (m : M D) [Pu m] : PuS (sExt i m) := ⟨fun ρ S S' => by
  unfold sExt
  split
  · exact (pu_sE m _ inferInstance fun d => ⟨fun ρ S S' => by (try dsimp only); split <;> (try split) <;> rfl⟩ : PuS _).pu ρ S S'
  · rfl⟩
instance : ∀ ds, PuS (gNil' ds) := fun ds => by unfold gNil'; split <;> exact ⟨fun _ _ _ => rfl⟩
instance (g : D → MS) (gs : List D → MS) [h : ∀ d, PuS (g d)] [k : ∀ d, PuS (gs d)] : ∀ ds, PuS (gCons' g gs ds) := fun ds => by
  unfold gCons'
  split
  · infer_instance
  · exact ⟨fun _ _ _ => rfl⟩
instance (n : Nat) (gs : List D → MS) [k : ∀ d, PuS (gs d)] : ∀ d, PuS (gTup' n gs d) := fun d => by
  unfold gTup'
  split
  · split
    · exact k _
    · exact ⟨fun _ _ _ => rfl⟩
  · split
    · exact k _
    · exact ⟨fun _ _ _ => rfl⟩
  · exact ⟨fun _ _ _ => rfl⟩
instance (i : Nat) (mi : M D) [Pu mi] (d : D) : PuS (gIt i mi d) := ⟨fun ρ S S' => by
  unfold gIt
  split
  · exact (pu_sE mi _ inferInstance fun d => ⟨fun ρ S S' => by
      try dsimp only
      split
      · split <;> rfl
      · rfl⟩ : PuS _).pu ρ S S'
  · rfl⟩
instance (m : MS) [h : PuS m] : PuS (sTg m) := ⟨fun ρ S S' => by
  unfold sTg
  rw [h.pu ρ S S']
  cases m ρ S <;> rfl⟩
instance (i : Nat) (mv mk : M D) [Pu mv] [Pu mk] : PuS (sDput i mv mk) := pu_sE _ _ inferInstance fun d => ⟨fun ρ S S' => by
  try dsimp only
  split
  · exact (pu_sE mk _ inferInstance fun d => ⟨fun ρ S S' => by
      try dsimp only
      split
      · split <;> rfl
      · rfl⟩ : PuS _).pu ρ S S'
  · rfl⟩
instance (i : Nat) (g : D → MS) [h : ∀ d, PuS (g d)] : PuS (sPop i g) := ⟨fun ρ S S' => by
  unfold sPop
  split
  · split
    · exact (inferInstance : PuS (sSeq (sTg (g _)) sNil)).pu _ S S'
    · rfl
  · rfl⟩
instance (i j : Nat) : PuS (sMove i j) := ⟨fun ρ S S' => by unfold sMove; split <;> rfl⟩
instance (n : Nat) (m : MS) [h : PuS m] : PuF (runFn n m) := ⟨fun ds S S' => by
  unfold runFn
  rw [h.pu _ S S']
  cases m (ds.map SD.val ++ List.replicate (n - ds.length) SD.no) S <;> rfl⟩
end
/-- told at one state, it is told at all -/
theorem PuF.at {f : List D → DS → Res D} [h : PuF f] {ds : List D} {d : D} {S0 S1 : DS} (e : f ds S0 = .ok d S1) (S : DS) : f ds S = .ok d S := by
  rw [h.pu ds S0 S, e]; rfl
def okB (r : Res D) : Bool := match r with | .ok (.bl true) _ => true | _ => false
theorem okB_at {f : List D → DS → Res D} [h : PuF f] {ds : List D} (e : okB (f ds dsNil) = true) (S : DS) : f ds S = .ok (.bl true) S := by
  unfold okB at e
  split at e
  · rename_i e2; exact PuF.at e2 S
  · cases e
/-! ### sorting, as the kernel can reckon it -/
def mrgK {α : Type} (le : α → α → Bool) : Nat → List α → List α → List α
  | 0, xs, ys => xs ++ ys
  | k + 1, xs, ys => match xs, ys with
    | [], ys => ys
    | xs, [] => xs
    | x :: xs, y :: ys => if le x y then x :: mrgK le k xs (y :: ys) else y :: mrgK le k (x :: xs) ys
def msK {α : Type} (le : α → α → Bool) : Nat → List α → List α
  | 0, xs => xs
  | k + 1, xs => match xs with
    | [] => []
    | [a] => [a]
    | a :: b :: xs => mrgK le (xs.length + 2) (msK le k ((a :: b :: xs).take ((xs.length + 3) / 2))) (msK le k ((a :: b :: xs).drop ((xs.length + 3) / 2)))
theorem mrgK_eq {α : Type} (le : α → α → Bool) : ∀ (k : Nat) (xs ys : List α), xs.length + ys.length ≤ k → mrgK le k xs ys = List.merge xs ys le
  | 0, xs, ys, h => by
    have h1 : xs = [] := List.eq_nil_of_length_eq_zero (by omega)
    have h2 : ys = [] := List.eq_nil_of_length_eq_zero (by omega)
    subst h1 h2; simp [mrgK, List.merge]
  | k + 1, [], ys, h => by simp [mrgK, List.merge]
  | k + 1, x :: xs, [], h => by simp [mrgK, List.merge]
  | k + 1, x :: xs, y :: ys, h => by
    simp only [List.length_cons] at h
    unfold mrgK
    rw [List.merge]
    try dsimp only
    rw [mrgK_eq le k xs (y :: ys) (by simp only [List.length_cons]; omega), mrgK_eq le k (x :: xs) ys (by simp only [List.length_cons]; omega)]
theorem msK_eq {α : Type} (le : α → α → Bool) : ∀ (k : Nat) (xs : List α), xs.length ≤ 2 ^ k → msK le k xs = xs.mergeSort le
  | 0, [], _ => by simp [msK]
  | 0, [a], _ => by simp [msK]
  | 0, a :: b :: xs, h => by simp at h
  | k + 1, [], _ => by simp [msK]
  | k + 1, [a], _ => by simp [msK]
  | k + 1, a :: b :: xs, h => by
    simp only [List.length_cons, Nat.pow_succ] at h
    unfold msK
    rw [List.mergeSort]
    try dsimp only
    have h1 : ((a :: b :: xs).take ((xs.length + 3) / 2)).length ≤ 2 ^ k := by simp only [List.length_take, List.length_cons]; omega
    have h2 : ((a :: b :: xs).drop ((xs.length + 3) / 2)).length ≤ 2 ^ k := by simp only [List.length_drop, List.length_cons]; omega
    rw [msK_eq le k _ h1, msK_eq le k _ h2, mrgK_eq]
    · simp only [List.MergeSort.Internal.splitInTwo, List.splitAt_eq, List.length_cons, show xs.length + 1 + 1 + 1 = xs.length + 3 from rfl]
    · simp only [List.length_mergeSort, List.length_take, List.length_drop, List.length_cons]; omega
def sortK {α : Type} (le : α → α → Bool) (xs : List α) : List α := if xs.length ≤ 8192 then msK le 13 xs else xs.mergeSort le
theorem sortK_eq {α : Type} (le : α → α → Bool) (xs : List α) : sortK le xs = xs.mergeSort le := by
  unfold sortK
  split
  · exact msK_eq le 13 xs (by assumption)
  · rfl
/-- the mirrors of sorted, so reckoned -/
def dSortedK : D → Option D
  | .lst ds => if sortOk ds = true then some (.lst (sortK leD ds)) else none
  | .tup ds => if sortOk ds = true then some (.lst (sortK leD ds)) else none
  | _ => none
def dSortSetK : D → Option D
  | .tup ds => if setOk ds = true then some (.lst ((sortK leI (ds.filterMap intTup).eraseDups).map tupI)) else none
  | _ => none
theorem dSorted_K : dSorted = dSortedK := funext fun d => by cases d <;> simp only [dSorted, dSortedK, sortK_eq, sortD]
theorem dSortSet_K : dSortSet = dSortSetK := funext fun d => by cases d <;> simp only [dSortSet, dSortSetK, sortK_eq, sortSet]
end Pf
end

section
set_option Elab.async false
set_option linter.all false
set_option maxRecDepth 100000
namespace Pf
open PySem PySem.Spec L2
/-! ### steps -/
section
variable {α β γ : Type} {ρ ρ' ρ2 : En} {S S1 S2 S3 : DS} {x : XV}
theorem st_bnd {m : M α} {f : α → M β} {a : α} (h : m ρ S = .ok a S1) : bnd m f ρ S = f a ρ S1 := by unfold bnd; rw [h]
theorem st_bndx {m : M α} {f : α → M β} (h : m ρ S = .exc x S1) : bnd m f ρ S = .exc x S1 := by unfold bnd; rw [h]
theorem st_bn2 {m : M α} {n : M β} {f : α → β → M γ} {a : α} {b : β} (h : m ρ S = .ok a S1) (h2 : n ρ S1 = .ok b S2) : bn2 m n f ρ S = f a b ρ S2 := (st_bnd h).trans (st_bnd h2)
theorem st_op {m n : M D} {f : D → D → Option α} {a b : D} {d : α} (h : m ρ S = .ok a S1) (h2 : n ρ S1 = .ok b S2) (e : f a b = some d) : bn2 m n (fun x y => lft (f x y)) ρ S = .ok d S2 := by
  rw [st_bn2 h h2, e]; rfl
theorem st_b1 {m : M D} {f : D → Option D} {a d : D} (h : m ρ S = .ok a S1) (e : f a = some d) : mB1 m f ρ S = .ok d S1 := by
  unfold mB1; rw [st_bnd h, e]; rfl
theorem st_asB {m : M D} {k : Bool} (h : m ρ S = .ok (.bl k) S1) : bnd m asB ρ S = .ok k S1 := (st_bnd h).trans rfl
theorem st_or_t {a b : M Bool} (h : a ρ S = .ok true S1) : mOrT a b ρ S = .ok true S1 := (st_bnd h).trans rfl
theorem st_or_f {a b : M Bool} (h : a ρ S = .ok false S1) : mOrT a b ρ S = b ρ S1 := (st_bnd h).trans rfl
theorem st_or {a b : M Bool} {k l : Bool} (h : a ρ S = .ok k S) (h2 : k = false → b ρ S = .ok l S) : mOrT a b ρ S = .ok (k || l) S := by
  cases k with
  | true => exact st_or_t h
  | false => exact (st_or_f h).trans (h2 rfl)
theorem st_and_t {a b : M Bool} (h : a ρ S = .ok true S1) : mAndT a b ρ S = b ρ S1 := (st_bnd h).trans rfl
theorem st_and_f {a b : M Bool} (h : a ρ S = .ok false S1) : mAndT a b ρ S = .ok false S1 := (st_bnd h).trans rfl
theorem st_and {a b : M Bool} {k l : Bool} (h : a ρ S = .ok k S) (h2 : k = true → b ρ S = .ok l S) : mAndT a b ρ S = .ok (k && l) S := by
  cases k with
  | true => exact (st_and_t h).trans (h2 rfl)
  | false => exact st_and_f h
theorem st_not {a : M Bool} {k : Bool} (h : a ρ S = .ok k S1) : mNotT a ρ S = .ok (!k) S1 := (st_bnd h).trans rfl
theorem st_andD {a b : M D} {k : Bool} {d : D} (h : a ρ S = .ok (.bl k) S) (h2 : k = true → b ρ S = .ok d S) (h3 : k = false → d = .bl false) : mAnd a b ρ S = .ok d S := by
  unfold mAnd
  rw [st_bnd h]
  cases k with
  | true => exact h2 rfl
  | false => rw [h3 rfl]; rfl
theorem st_orD {a b : M D} {k : Bool} {d : D} (h : a ρ S = .ok (.bl k) S) (h2 : k = false → b ρ S = .ok d S) (h3 : k = true → d = .bl true) : mOr a b ρ S = .ok d S := by
  unfold mOr
  rw [st_bnd h]
  cases k with
  | false => exact h2 rfl
  | true => rw [h3 rfl]; rfl
theorem st_notD {a : M D} {k : Bool} (h : a ρ S = .ok (.bl k) S1) : mNot a ρ S = .ok (.bl !k) S1 := by unfold mNot; rw [st_bnd h]; rfl
theorem st_ifM {c : M Bool} {a b : M α} {k : Bool} (h : c ρ S = .ok k S1) : mIf c a b ρ S = if k = true then a ρ S1 else b ρ S1 := by
  unfold mIf
  rw [st_bnd h]
  cases k <;> rfl
theorem st_cons {m : M D} {ms : M (List D)} {d : D} {ds : List D} (h : m ρ S = .ok d S1) (h2 : ms ρ S1 = .ok ds S2) : mCons m ms ρ S = .ok (d :: ds) S2 := (st_bnd h).trans ((st_bnd h2).trans rfl)
theorem st_tup {ms : M (List D)} {ds : List D} (h : ms ρ S = .ok ds S1) (hl : ds.length ≤ 1000) : mTup ms ρ S = .ok (.tup ds) S1 := (st_bnd h).trans (by rw [if_pos hl]; rfl)
theorem st_lst {ms : M (List D)} {ds : List D} (h : ms ρ S = .ok ds S1) (hl : ds.length ≤ 1000) : mLst ms ρ S = .ok (.lst ds) S1 := (st_bnd h).trans (by rw [if_pos hl]; rfl)
theorem st_call {n : Nat} {ms : M (List D)} {m : List D → DS → Res D} {ds : List D} (h : ms ρ S = .ok ds S1) (hl : ds.length = n) : mCall n ms m ρ S = m ds S1 := (st_bnd h).trans (by rw [if_pos hl])
theorem st_seq {a b : MS} (h : a ρ S = .nx ρ' S1) : sSeq a b ρ S = b ρ' S1 := by unfold sSeq; rw [h]
theorem st_seq_rt {a b : MS} {d : D} (h : a ρ S = .rt d S1) : sSeq a b ρ S = .rt d S1 := by unfold sSeq; rw [h]
theorem st_seq_x {a b : MS} (h : a ρ S = .exc x S1) : sSeq a b ρ S = .exc x S1 := by unfold sSeq; rw [h]
theorem st_sE {m : M α} {k : α → MS} {a : α} (h : m ρ S = .ok a S1) : sE m k ρ S = k a ρ S1 := by unfold sE; rw [h]
theorem st_sEx {m : M α} {k : α → MS} (h : m ρ S = .exc x S1) : sE m k ρ S = .exc x S1 := by unfold sE; rw [h]
theorem st_if_t {c : M Bool} {a b : MS} (h : c ρ S = .ok true S1) : sIf c a b ρ S = a ρ S1 := (st_sE h).trans rfl
theorem st_if_f {c : M Bool} {a b : MS} (h : c ρ S = .ok false S1) : sIf c a b ρ S = b ρ S1 := (st_sE h).trans rfl
theorem st_set {m : M D} {i : Nat} {d : D} (h : m ρ S = .ok d S1) : sE m (sSet i) ρ S = .nx (ρ.set i (.val d)) S1 := st_sE h
theorem st_rt {m : M D} {d : D} (h : m ρ S = .ok d S1) : sE m sRt ρ S = .rt d S1 := st_sE h
theorem st_drop {m : M D} {d : D} (h : m ρ S = .ok d S1) : sDrop m ρ S = .nx ρ S1 := st_sE h
theorem st_sl {m : M D} {ml mh : M (Option Int)} {x d : D} {l h : Option Int} (e1 : m ρ S = .ok x S) (e2 : ml ρ S = .ok l S) (e3 : mh ρ S = .ok h S) (e4 : dSl x l h = some d) : mSl m ml mh ρ S = .ok d S := by
  unfold mSl
  rw [st_bnd e1, st_bnd e2, st_bnd e3, e4]; rfl
theorem st_part {m : M D} {i : Int} (h : m ρ S = .ok (.int i) S1) : mPart m ρ S = .ok (some i) S1 := (st_bnd h).trans rfl
theorem st_two {ma mb : M SD} {i j : Nat} {s t : SD} (h : ma ρ S = .ok s S1) (h2 : mb ρ S1 = .ok t S2) (hl : i < ρ.length ∧ j < ρ.length) : mTwo ma mb i j ρ S = .nx ((ρ.set i s).set j t) S2 := by
  unfold mTwo
  rw [st_sE h, st_sE h2, if_pos hl]
theorem st_for {mi : M (List D)} {g : GP} {b : MS} {its : List D} (h : mi ρ S = .ok its S1) : sFor mi g b ρ S = forLoop g b its ρ S1 := st_sE h
theorem st_app {m : M D} {i : Nat} {ds : List D} {d : D} (e : ρ[i]? = some (.own ds)) (h : m ρ S = .ok d S1) (hl : ds.length < 16777216) : sApp i m ρ S = .nx (ρ.set i (.own (ds ++ [d]))) S1 := by
  unfold sApp
  rw [e]
  dsimp only
  rw [st_sE h, if_pos hl]
theorem st_ext {m : M D} {i : Nat} {ds es : List D} (e : ρ[i]? = some (.own ds)) (h : m ρ S = .ok (.lst es) S1) (hl : ds.length + es.length ≤ 16777216) : sExt i m ρ S = .nx (ρ.set i (.own (ds ++ es))) S1 := by
  unfold sExt
  rw [e]
  dsimp only
  rw [st_sE h]
  dsimp only
  rw [if_pos hl]
theorem st_pop {i j : Nat} {ds : List D} {d : D} (e : ρ[i]? = some (.own (ds ++ [d]))) : sPop i (sSet j) ρ S = .nx ((ρ.set i (.own ds)).set j (.val d)) S := by
  unfold sPop
  rw [e]
  have e1 : (ds ++ [d])[(ds ++ [d]).length - 1]? = some d := by simp
  dsimp only
  rw [e1, List.dropLast_concat]
  rfl
theorem st_while_t {t : M Bool} {b : MS} {n : Nat} (h : t ρ S = .ok true S1) (h2 : b ρ S1 = .nx ρ' S2) : whileN t b (n + 1) ρ S = whileN t b n ρ' S2 := by
  rw [whileN, h]
  dsimp only
  rw [h2]
theorem st_while_f {t : M Bool} {b : MS} {n : Nat} (h : t ρ S = .ok false S1) : whileN t b (n + 1) ρ S = .nx ρ S1 := by
  rw [whileN, h]
theorem st_for_nx {g : GP} {b : MS} {d : D} {ds : List D} (h : g d ρ = some ρ') (h2 : b ρ' S = .nx ρ2 S1) : forLoop g b (d :: ds) ρ S = forLoop g b ds ρ2 S1 := by
  rw [forLoop, h]
  dsimp only
  rw [h2]
theorem st_for_rt {g : GP} {b : MS} {d e : D} {ds : List D} (h : g d ρ = some ρ') (h2 : b ρ' S = .rt e S1) : forLoop g b (d :: ds) ρ S = .rt e S1 := by
  rw [forLoop, h]
  dsimp only
  rw [h2]
/-! ### a comprehension, told item by item -/
theorem lc_ok {vs : List Nat} {g : GP} {tt : M Bool} {te : M D} {ι : Type} (emb : ι → D) (p : ι → Bool) (f : ι → D) (en : ι → En) :
    ∀ (l : List ι), (∀ i ∈ l, g (emb i) (wipeE ρ vs) = some (en i) ∧ tt (en i) S = .ok (p i) S ∧ (p i = true → te (en i) S = .ok (f i) S)) →
    lcLoop vs g tt te (l.map emb) ρ S = .ok ((l.filter p).map f) S
  | [], _ => rfl
  | i :: l, h => by
    obtain ⟨h1, h2, h3⟩ := h i List.mem_cons_self
    have ih := lc_ok emb p f en l fun j hj => h j (List.mem_cons_of_mem _ hj)
    rw [List.map_cons]
    unfold lcLoop
    rw [h1]
    dsimp only
    rw [h2]
    cases e : p i with
    | true =>
      dsimp only
      rw [h3 e]
      dsimp only
      rw [ih, List.filter_cons_of_pos e]
      rfl
    | false =>
      dsimp only
      rw [ih, List.filter_cons_of_neg (by rw [e]; exact Bool.false_ne_true)]
theorem st_lc {mi : M (List D)} {vs : List Nat} {g : GP} {tt : M Bool} {te : M D} {its ds : List D} (h : mi ρ S = .ok its S1) (hl : its.length ≤ 16777216) (hv : vs.all (notOwn ρ) = true) (h2 : lcLoop vs g tt te its ρ S1 = .ok ds S2) :
    mLc mi vs g tt te ρ S = .ok ds S2 := by
  unfold mLc
  rw [st_bnd h]
  rw [if_pos ⟨hl, hv⟩, h2]
end
/-! ### reckoning with places -/
theorem atI_nat {α : Type} (xs : List α) (j : Nat) : atI xs (j : Int) = xs[j]? := by
  unfold atI ixN
  rw [if_pos (by omega)]
  by_cases h : j < xs.length
  · rw [if_pos (by omega)]; simp
  · rw [if_neg (by omega), List.getElem?_eq_none (by omega)]; rfl
theorem cut_to (xs : List D) (j : Nat) : cutD xs none (some (j : Int)) = xs.take j := by
  unfold cutD
  rw [HT.sIx_nat, HT.sIx_none]
  simp only [List.drop_zero, Nat.sub_zero]
  by_cases h : j ≤ xs.length
  · rw [Nat.min_eq_left h]
  · rw [Nat.min_eq_right (by omega), List.take_length, List.take_of_length_le (by omega)]
theorem cut_from (xs : List D) (j : Nat) : cutD xs (some (j : Int)) none = xs.drop j := by
  unfold cutD
  rw [HT.sIx_nat, HT.sIx_none]
  by_cases h : j ≤ xs.length
  · rw [Nat.min_eq_left h, List.take_of_length_le (by rw [List.length_drop]; omega)]
  · rw [Nat.min_eq_right (by omega), List.drop_eq_nil_of_le (show xs.length ≤ j by omega), List.drop_length]; simp
theorem cut_mid (xs : List D) (i j : Nat) (h : i ≤ j) (hj : j ≤ xs.length) : cutD xs (some (i : Int)) (some (j : Int)) = (xs.drop i).take (j - i) := by
  unfold cutD
  rw [HT.sIx_nat, HT.sIx_nat, Nat.min_eq_left hj, Nat.min_eq_left (by omega)]
end Pf
end

section
set_option Elab.async false
set_option linter.all false
set_option maxRecDepth 100000
namespace Pf
open PySem PySem.Spec L2
variable [TabsC]
def top (i : Nat) : Stmt := PySem.Challenge.pw_pairsonce_k67_whole_gap_rows_of_every_si.main.body.getD i (.Pass ⟨0, 0, 0, 0⟩)
abbrev XC : List Str := ["BadNumber", "TooMany", "BadGapKind"]
structure Txt (P : Program) (w : World) (K : PySem.W.Frag) (mg : Str → Option Value) : Prop where
  b_abs : mg "abs" = none
  b_all : mg "all" = none
  b_bool : mg "bool" = none
  b_dict : mg "dict" = none
  b_enumerate : mg "enumerate" = none
  b_int : mg "int" = none
  b_isinstance : mg "isinstance" = none
  b_len : mg "len" = none
  b_list : mg "list" = none
  b_min : mg "min" = none
  b_range : mg "range" = none
  b_reversed : mg "reversed" = none
  b_set : mg "set" = none
  b_sorted : mg "sorted" = none
  b_str : mg "str" = none
  b_tuple : mg "tuple" = none
  b_zip : mg "zip" = none
  k_MOST_GAPS : ∃ t, mg "MOST_GAPS" = some (.int 40 t)
  k_MOST_GAP_ROWS : ∃ t, mg "MOST_GAP_ROWS" = some (.int 200 t)
  k_MOST_LISTED : ∃ t, mg "MOST_LISTED" = some (.int 8 t)
  c_BadGapKind : IsExc0 K mg "BadGapKind"
  c_BadNumber : IsExc1 P K mg "BadNumber" "word"
  c_TooMany : IsExc1 P K mg "TooMany" "most"
  xt : ExcT K mg XC
  n_BadNumber_word : ∀ C, mg "BadNumber" = some (.ref C) → PySem.W.findIn K (.ref C) "word" = some none
  n_TooMany_most : ∀ C, mg "TooMany" = some (.ref C) → PySem.W.findIn K (.ref C) "most" = some none
  cau : CauT P w K mg "_law_caught" XC
/-! ### is_whole -/
abbrev s_is_whole : Stmt := top 6
def b_is_whole : MS := (sE (mAnd (mB1 (mVar 0) (dIsT "int")) (mNot (mB1 (mVar 0) (dIsT "bool")))) sRt)
def f_is_whole : List D → DS → Res D := runFn 1 b_is_whole
theorem sc_is_whole : FnScope ["value"] ["value"] (defScope s_is_whole) := ⟨rfl, rfl, rfl, by decide +kernel, rfl, by decide +kernel, by decide +kernel⟩
theorem df_is_whole {P : Program} {w : World} {K : PySem.W.Frag} {mg : Str → Option Value} {base : Heap} {a : Addr} {fd : FuncData} (T : Txt P w K mg) (F : Fun K "is_whole" "is_whole" s_is_whole a fd) (hm : mg "is_whole" = some (.ref a)) (hb : Binds K fd ["value"] []) :
    Df P w K mg base 1 "is_whole" ["value"] f_is_whole s_is_whole := df_of F hm sc_is_whole hb fun cdv A outer s H E c hp tk =>
  have nd := (sc_is_whole).nd
  (rss_one (rs_ret (re_and (re_isT (T := "int") (by rfl) T.b_isinstance (by rfl) T.b_int (by decide +kernel) (RE.q (re_var (pv 0)))) (re_one (re_not (re_isT (T := "bool") (by rfl) T.b_isinstance (by rfl) T.b_bool (by decide +kernel) (RE.q (re_var (pv 0)))))))))
/-! ### need_whole -/
abbrev s_need_whole : Stmt := top 7
def b_need_whole : MS := (sIf (mOrT (mNotT (bnd (mCall 1 (mCons (mVar 0) (ret [])) f_is_whole) asB)) (mOrT (mAndT (bn2 (mVar 1) (ret .non) fun x y => lft (dIsNot x y)) (bn2 (mVar 0) (mVar 1) fun x y => lft (dLt x y))) (mAndT (bn2 (mVar 2) (ret .non) fun x y => lft (dIsNot x y)) (bn2 (mVar 0) (mVar 2) fun x y => lft (dGt x y))))) (sRaise1 "BadNumber" "word" (mVar 3)) sNil)
def f_need_whole : List D → DS → Res D := runFn 4 b_need_whole
theorem sc_need_whole : FnScope ["value", "low", "high", "word"] ["value", "low", "high", "word"] (defScope s_need_whole) := ⟨rfl, rfl, rfl, by decide +kernel, rfl, by decide +kernel, by decide +kernel⟩
structure D_need_whole (P : Program) (w : World) (K : PySem.W.Frag) (mg : Str → Option Value) (base : Heap) : Prop where
  d_is_whole : Df P w K mg base 1 "is_whole" ["value"] f_is_whole (top 6)
theorem df_need_whole {P : Program} {w : World} {K : PySem.W.Frag} {mg : Str → Option Value} {base : Heap} {a : Addr} {fd : FuncData} (T : Txt P w K mg) (DD : D_need_whole P w K mg base) (F : Fun K "need_whole" "need_whole" s_need_whole a fd) (hm : mg "need_whole" = some (.ref a)) (hb : Binds K fd ["value", "low", "high", "word"] []) :
    Df P w K mg base 3 "need_whole" ["value", "low", "high", "word"] f_need_whole s_need_whole := df_of F hm sc_need_whole hb fun cdv A outer s H E c hp tk =>
  have nd := (sc_need_whole).nd
  (rss_one (rs_if (rt_w (rw_or (rt_not (rt_val (re_call DD.d_is_whole c (by decide) (by rfl) (ra_cons (re_var (pv 0)) ra_nil)))) (rw_or (rt_w (rw_and (rt_cmp c_isNot (RE.q (re_var (pv 1))) (RE.q (re_non)) rfl) (rw_and1 (rt_cmp (c_lt c.u0) (RE.q (re_var (pv 0))) (RE.q (re_var (pv 1))) rfl)))) (rw_or1 (rt_w (rw_and (rt_cmp c_isNot (RE.q (re_var (pv 2))) (RE.q (re_non)) rfl) (rw_and1 (rt_cmp c_gt (RE.q (re_var (pv 0))) (RE.q (re_var (pv 2))) rfl)))))))) (rss_one (rs_raise1 c tk T.c_BadNumber (by decide) (by rfl) (re_var (pv 3)))) rss_nil))
/-! ### need_gaps -/
abbrev s_need_gaps : Stmt := top 12
def b_need_gaps : MS := (sSeq (sDrop (mCall 4 (mCons (mVar 0) (mCons (ret (.int 1)) (mCons (mVar 1) (mCons (ret (.str "n")) (ret []))))) f_need_whole))
  (sIf (mOrT (mNotT (bnd (mB1 (mVar 2) (dIsT "str")) asB)) (bn2 (mVar 2) (mTup (mCons (ret (.str "whole")) (mCons (ret (.str "hooked")) (ret [])))) fun x y => lft (dNotIn x y))) (sRaise0 "BadGapKind") sNil))
def f_need_gaps : List D → DS → Res D := runFn 3 b_need_gaps
theorem sc_need_gaps : FnScope ["n", "most", "kind"] ["n", "most", "kind"] (defScope s_need_gaps) := ⟨rfl, rfl, rfl, by decide +kernel, rfl, by decide +kernel, by decide +kernel⟩
structure D_need_gaps (P : Program) (w : World) (K : PySem.W.Frag) (mg : Str → Option Value) (base : Heap) : Prop where
  d_need_whole : Df P w K mg base 3 "need_whole" ["value", "low", "high", "word"] f_need_whole (top 7)
theorem df_need_gaps {P : Program} {w : World} {K : PySem.W.Frag} {mg : Str → Option Value} {base : Heap} {a : Addr} {fd : FuncData} (T : Txt P w K mg) (DD : D_need_gaps P w K mg base) (F : Fun K "need_gaps" "need_gaps" s_need_gaps a fd) (hm : mg "need_gaps" = some (.ref a)) (hb : Binds K fd ["n", "most", "kind"] []) :
    Df P w K mg base 4 "need_gaps" ["n", "most", "kind"] f_need_gaps s_need_gaps := df_of F hm sc_need_gaps hb fun cdv A outer s H E c hp tk =>
  have nd := (sc_need_gaps).nd
  (rss_cons (rs_expr (re_call DD.d_need_whole c (by decide) (by rfl) (ra_cons (re_var (pv 0)) (ra_cons (re_int) (ra_cons (re_var (pv 1)) (ra_cons (re_str) ra_nil))))))
  (rss_one (rs_if (rt_w (rw_or (rt_not (rt_val (re_isT (T := "str") (by rfl) T.b_isinstance (by rfl) T.b_str (by decide +kernel) (RE.q (re_var (pv 2)))))) (rw_or1 (rt_cmp (c_notIn c.u) (RE.q (re_var (pv 2))) (RE.q (re_tup (ra_cons (re_str) (ra_cons (re_str) ra_nil)))) rfl)))) (rss_one (rs_raise0 c tk T.c_BadGapKind (by rfl))) rss_nil)))
/-! ### is_row_of -/
abbrev s_is_row_of : Stmt := top 13
def b_is_row_of : MS := (sSeq (sE (mIf (bn2 (mVar 1) (ret (.str "whole")) fun x y => lft (dEq x y)) (bn2 (ret (.int 2)) (mVar 0) fun x y => lft (dMul x y)) (bn2 (bn2 (ret (.int 2)) (mVar 0) fun x y => lft (dMul x y)) (ret (.int 1)) fun x y => lft (dAdd x y))) (sSet 3))
  (sSeq (sIf (mOrT (mNotT (bnd (mB1 (mVar 2) (dIsT "tuple")) asB)) (mOrT (bn2 (mB1 (mVar 2) dLen) (mVar 3) fun x y => lft (dNe x y)) (mNotT (bnd (mB1 (bnd (mLc (bnd (mVar 2) asL) [6] (gpName 6) (ret true) (mCall 1 (mCons (mVar 6) (ret [])) f_is_whole)) fun ds => ret (.lst ds)) dAll) asB)))) (sE (ret (.bl false)) sRt) sNil)
  (sSeq (sIf (mAndT (bn2 (mVar 1) (ret (.str "hooked")) fun x y => lft (dEq x y)) (bn2 (bn2 (mVar 2) (bn2 (mVar 3) (ret (.int 2)) fun x y => lft (dSub x y)) fun x y => lft (dIx x y)) (ret (.int 0)) fun x y => lft (dNe x y))) (sE (ret (.bl false)) sRt) sNil)
  (sSeq (sFor (mRng2 (ret (.int 1)) (bn2 (mVar 0) (ret (.int 1)) fun x y => lft (dAdd x y))) (gpName 4) (sSeq (sE (mLc (mEnum (mVar 2)) [7, 6] (gpTup 2 (gpCons (gpName 7) (gpCons (gpName 6) gpNil))) (bn2 (mVar 6) (mVar 4) fun x y => lft (dEq x y)) (mVar 7)) fun ds => sSet 5 (.lst ds))
  (sIf (mOrT (bn2 (mB1 (mVar 5) dLen) (ret (.int 2)) fun x y => lft (dNe x y)) (bn2 (bn2 (bn2 (mVar 5) (ret (.int 1)) fun x y => lft (dIx x y)) (bn2 (mVar 5) (ret (.int 0)) fun x y => lft (dIx x y)) fun x y => lft (dSub x y)) (mVar 4) fun x y => lft (dNe x y))) (sE (ret (.bl false)) sRt) sNil)))
  (sE (ret (.bl true)) sRt)))))
def f_is_row_of : List D → DS → Res D := runFn 8 b_is_row_of
theorem sc_is_row_of : FnScope ["n", "kind", "value", "size", "number", "places", "entry", "place"] ["n", "kind", "value"] (defScope s_is_row_of) := ⟨rfl, rfl, rfl, by decide +kernel, rfl, by decide +kernel, by decide +kernel⟩
structure D_is_row_of (P : Program) (w : World) (K : PySem.W.Frag) (mg : Str → Option Value) (base : Heap) : Prop where
  d_is_whole : Df P w K mg base 1 "is_whole" ["value"] f_is_whole (top 6)
theorem df_is_row_of {P : Program} {w : World} {K : PySem.W.Frag} {mg : Str → Option Value} {base : Heap} {a : Addr} {fd : FuncData} (T : Txt P w K mg) (DD : D_is_row_of P w K mg base) (F : Fun K "is_row_of" "is_row_of" s_is_row_of a fd) (hm : mg "is_row_of" = some (.ref a)) (hb : Binds K fd ["n", "kind", "value"] []) :
    Df P w K mg base 2 "is_row_of" ["n", "kind", "value"] f_is_row_of s_is_row_of := df_of F hm sc_is_row_of hb fun cdv A outer s H E c hp tk =>
  have nd := (sc_is_row_of).nd
  (rss_cons (rs_set 3 nd rfl (Or.inl rfl) (re_if (rt_cmp (c_eq c.u64) (RE.q (re_var (pv 1))) (RE.q (re_str)) rfl) (re_mul (RE.q (re_int)) (RE.q (re_var (pv 0)))) (re_add (RE.q (re_mul (RE.q (re_int)) (RE.q (re_var (pv 0))))) (RE.q (re_int)))))
  (rss_cons (rs_if (rt_w (rw_or (rt_not (rt_val (re_isT (T := "tuple") (by rfl) T.b_isinstance (by rfl) T.b_tuple (by decide +kernel) (RE.q (re_var (pv 2)))))) (rw_or (rt_cmp (c_ne c.u64) (RE.q (re_len (by rfl) T.b_len (RE.q (re_var (pv 2))))) (RE.q (re_var (pv 3))) rfl) (rw_or1 (rt_not (rt_val (re_all c.calm (by rfl) T.b_all (RE.q (rn_re (rn_lc c.calm nd (ri_c (RE.q (re_var (pv 2)))) (own := [("entry", 6)]) (blkOk_by (by show blkC ["n", "kind", "value", "size", "number", "places", "entry", "place"] (defScope s_is_row_of) _ [("entry", 6)] = true; decide +kernel)) (fun _ _ _ _ _ => (rc_name 6 nd rfl (Or.inl rfl) (by decide))) (fun _ _ _ _ _ => rts_nil) (fun _ _ _ _ _ => (re_call DD.d_is_whole c.blk (by decide) (by rfl) (ra_cons (re_var (pv 6)) ra_nil))))))))))))) (rss_one (rs_ret (re_bl))) rss_nil)
  (rss_cons (rs_if (rt_w (rw_and (rt_cmp (c_eq c.u64) (RE.q (re_var (pv 1))) (RE.q (re_str)) rfl) (rw_and1 (rt_cmp (c_ne c.u64) (RE.q (re_ix (RE.q (re_var (pv 2))) (RE.q (re_sub (RE.q (re_var (pv 3))) (RE.q (re_int)))) (fun _ _ => rfl))) (RE.q (re_int)) rfl)))) (rss_one (rs_ret (re_bl))) rss_nil)
  (rss_cons (rs_for (vs := [4]) hp c.calm (ri_rng2 (by rfl) T.b_range (RE.q (re_int)) (RE.q (re_add (RE.q (re_var (pv 0))) (RE.q (re_int))))) (rc_name 4 nd rfl (Or.inr rfl) (by decide)) (rss_cons (rs_setLc 5 c.calm nd rfl rfl (sw_true rfl rfl rfl rfl) (rif_c (ri_enum (by rfl) T.b_enumerate (re_var (pv 2)))) (own := [("place", 7), ("entry", 6)]) (blkOk_by (by show blkC ["n", "kind", "value", "size", "number", "places", "entry", "place"] (defScope s_is_row_of) _ [("place", 7), ("entry", 6)] = true; decide +kernel)) (fun _ _ _ _ _ => (rc_tup c.blk.calm (rcs_cons (rc_name 7 nd rfl (Or.inl rfl) (by decide)) (rcs_cons (rc_name 6 nd rfl (Or.inl rfl) (by decide)) rcs_nil)))) (fun _ _ _ _ _ => (rts_one (rt_cmp (c_eq c.blk.u64) (RE.q (re_var (pv 6))) (RE.q (re_var (pv 4))) rfl))) (fun _ _ _ _ _ => (re_var (pv 7))))
  (rss_one (rs_if (rt_w (rw_or (rt_cmp (c_ne c.u64) (RE.q (re_len (by rfl) T.b_len (RE.q (re_var (pv 5))))) (RE.q (re_int)) rfl) (rw_or1 (rt_cmp (c_ne c.u64) (RE.q (re_sub (RE.q (re_ix (RE.q (re_var (pv 5))) (RE.q (re_int)) (fun _ _ => rfl))) (RE.q (re_ix (RE.q (re_var (pv 5))) (RE.q (re_int)) (fun _ _ => rfl))))) (RE.q (re_var (pv 4))) rfl)))) (rss_one (rs_ret (re_bl))) rss_nil))))
  (rss_one (rs_ret (re_bl)))))))
/-! ### is_gap_row -/
abbrev s_is_gap_row : Stmt := top 14
def b_is_gap_row : MS := (sSeq (sDrop (mCall 3 (mCons (mVar 0) (mCons (ret (.int 40)) (mCons (mVar 1) (ret [])))) f_need_gaps))
  (sE (mCall 3 (mCons (mVar 0) (mCons (mVar 1) (mCons (mVar 2) (ret [])))) f_is_row_of) sRt))
def f_is_gap_row : List D → DS → Res D := runFn 3 b_is_gap_row
theorem sc_is_gap_row : FnScope ["n", "kind", "value"] ["n", "kind", "value"] (defScope s_is_gap_row) := ⟨rfl, rfl, rfl, by decide +kernel, rfl, by decide +kernel, by decide +kernel⟩
structure D_is_gap_row (P : Program) (w : World) (K : PySem.W.Frag) (mg : Str → Option Value) (base : Heap) : Prop where
  d_need_gaps : Df P w K mg base 4 "need_gaps" ["n", "most", "kind"] f_need_gaps (top 12)
  d_is_row_of : Df P w K mg base 2 "is_row_of" ["n", "kind", "value"] f_is_row_of (top 13)
theorem df_is_gap_row {P : Program} {w : World} {K : PySem.W.Frag} {mg : Str → Option Value} {base : Heap} {a : Addr} {fd : FuncData} (T : Txt P w K mg) (DD : D_is_gap_row P w K mg base) (F : Fun K "is_gap_row" "is_gap_row" s_is_gap_row a fd) (hm : mg "is_gap_row" = some (.ref a)) (hb : Binds K fd ["n", "kind", "value"] []) :
    Df P w K mg base 5 "is_gap_row" ["n", "kind", "value"] f_is_gap_row s_is_gap_row := df_of F hm sc_is_gap_row hb fun cdv A outer s H E c hp tk =>
  have nd := (sc_is_gap_row).nd
  (rss_cons (rs_expr (re_call DD.d_need_gaps c (by decide) (by rfl) (ra_cons (re_var (pv 0)) (ra_cons (re_gli (by rfl) T.k_MOST_GAPS) (ra_cons (re_var (pv 1)) ra_nil)))))
  (rss_one (rs_ret (re_call DD.d_is_row_of c (by decide) (by rfl) (ra_cons (re_var (pv 0)) (ra_cons (re_var (pv 1)) (ra_cons (re_var (pv 2)) ra_nil)))))))
/-! ### blank_row -/
abbrev s_blank_row : Stmt := top 15
def b_blank_row : MS := (sE (mIf (bn2 (mVar 1) (ret (.str "whole")) fun x y => lft (dEq x y)) (bn2 (mTup (mCons (ret .non) (ret []))) (bn2 (ret (.int 2)) (mVar 0) fun x y => lft (dMul x y)) fun x y => lft (dMul x y)) (bn2 (bn2 (mTup (mCons (ret .non) (ret []))) (bn2 (bn2 (ret (.int 2)) (mVar 0) fun x y => lft (dMul x y)) (ret (.int 1)) fun x y => lft (dSub x y)) fun x y => lft (dMul x y)) (mTup (mCons (ret (.int 0)) (mCons (ret .non) (ret [])))) fun x y => lft (dAdd x y))) sRt)
def f_blank_row : List D → DS → Res D := runFn 2 b_blank_row
theorem sc_blank_row : FnScope ["n", "kind"] ["n", "kind"] (defScope s_blank_row) := ⟨rfl, rfl, rfl, by decide +kernel, rfl, by decide +kernel, by decide +kernel⟩
theorem df_blank_row {P : Program} {w : World} {K : PySem.W.Frag} {mg : Str → Option Value} {base : Heap} {a : Addr} {fd : FuncData} (T : Txt P w K mg) (F : Fun K "blank_row" "blank_row" s_blank_row a fd) (hm : mg "blank_row" = some (.ref a)) (hb : Binds K fd ["n", "kind"] []) :
    Df P w K mg base 1 "blank_row" ["n", "kind"] f_blank_row s_blank_row := df_of F hm sc_blank_row hb fun cdv A outer s H E c hp tk =>
  have nd := (sc_blank_row).nd
  (rss_one (rs_ret (re_if (rt_cmp (c_eq c.u64) (RE.q (re_var (pv 1))) (RE.q (re_str)) rfl) (re_mul (RE.q (re_tup (ra_cons (re_non) ra_nil))) (RE.q (re_mul (RE.q (re_int)) (RE.q (re_var (pv 0)))))) (re_add (RE.q (re_mul (RE.q (re_tup (ra_cons (re_non) ra_nil))) (RE.q (re_sub (RE.q (re_mul (RE.q (re_int)) (RE.q (re_var (pv 0))))) (RE.q (re_int)))))) (RE.q (re_tup (ra_cons (re_int) (ra_cons (re_non) ra_nil))))))))
/-! ### filled_first -/
abbrev s_filled_first : Stmt := top 16
def b_filled_first : MS := (sSeq (sE (mIdx (mVar 0) (ret .non)) (sSet 2))
  (sSeq (sE (bn2 (mVar 2) (mVar 1) fun x y => lft (dAdd x y)) (sSet 3))
  (sSeq (sIf (mOrT (bn2 (mVar 1) (mVar 0) fun x y => lft (dIn x y)) (mOrT (bn2 (mVar 3) (mB1 (mVar 0) dLen) fun x y => lft (dGe x y)) (bn2 (bn2 (mVar 0) (mVar 3) fun x y => lft (dIx x y)) (ret .non) fun x y => lft (dIsNot x y)))) (sE (ret .non) sRt) sNil)
  (sE (bn2 (bn2 (bn2 (bn2 (mSl (mVar 0) (ret none) (mPart (mVar 2))) (mTup (mCons (mVar 1) (ret []))) fun x y => lft (dAdd x y)) (mSl (mVar 0) (mPart (bn2 (mVar 2) (ret (.int 1)) fun x y => lft (dAdd x y))) (mPart (mVar 3))) fun x y => lft (dAdd x y)) (mTup (mCons (mVar 1) (ret []))) fun x y => lft (dAdd x y)) (mSl (mVar 0) (mPart (bn2 (mVar 3) (ret (.int 1)) fun x y => lft (dAdd x y))) (ret none)) fun x y => lft (dAdd x y)) sRt))))
def f_filled_first : List D → DS → Res D := runFn 4 b_filled_first
theorem sc_filled_first : FnScope ["row", "number", "place", "later"] ["row", "number"] (defScope s_filled_first) := ⟨rfl, rfl, rfl, by decide +kernel, rfl, by decide +kernel, by decide +kernel⟩
theorem df_filled_first {P : Program} {w : World} {K : PySem.W.Frag} {mg : Str → Option Value} {base : Heap} {a : Addr} {fd : FuncData} (T : Txt P w K mg) (F : Fun K "filled_first" "filled_first" s_filled_first a fd) (hm : mg "filled_first" = some (.ref a)) (hb : Binds K fd ["row", "number"] []) :
    Df P w K mg base 1 "filled_first" ["row", "number"] f_filled_first s_filled_first := df_of F hm sc_filled_first hb fun cdv A outer s H E c hp tk =>
  have nd := (sc_filled_first).nd
  (rss_cons (rs_set 2 nd rfl (Or.inl rfl) (re_index c.u (re_var (pv 0)) (re_non)))
  (rss_cons (rs_set 3 nd rfl (Or.inl rfl) (re_add (RE.q (re_var (pv 2))) (RE.q (re_var (pv 1)))))
  (rss_cons (rs_if (rt_w (rw_or (rt_cmp (c_in c.u) (RE.q (re_var (pv 1))) (RE.q (re_var (pv 0))) rfl) (rw_or (rt_cmp c_ge (RE.q (re_var (pv 3))) (RE.q (re_len (by rfl) T.b_len (RE.q (re_var (pv 0))))) rfl) (rw_or1 (rt_cmp c_isNot (RE.q (re_ix (RE.q (re_var (pv 0))) (RE.q (re_var (pv 3))) (fun _ _ => rfl))) (RE.q (re_non)) rfl))))) (rss_one (rs_ret (re_non))) rss_nil)
  (rss_one (rs_ret (re_add (RE.q (re_add (RE.q (re_add (RE.q (re_add (RE.q (re_sl (RE.q (re_var (pv 0))) ro_none (ro_some (re_var (pv 2))))) (RE.q (re_tup (ra_cons (re_var (pv 1)) ra_nil))))) (RE.q (re_sl (RE.q (re_var (pv 0))) (ro_some (re_add (RE.q (re_var (pv 2))) (RE.q (re_int)))) (ro_some (re_var (pv 3))))))) (RE.q (re_tup (ra_cons (re_var (pv 1)) ra_nil))))) (RE.q (re_sl (RE.q (re_var (pv 0))) (ro_some (re_add (RE.q (re_var (pv 3))) (RE.q (re_int)))) ro_none))))))))
/-! ### rows_found -/
abbrev s_rows_found : Stmt := top 17
def b_rows_found : MS := (sSeq (mTwo (mOwnL (bnd (mCons (mCall 2 (mCons (mVar 0) (mCons (mVar 1) (ret []))) f_blank_row) (ret [])) fun ds => if ds.length ≤ 1000 then ret ds else bad)) (mOwnL (bnd (ret []) fun ds => if ds.length ≤ 1000 then ret ds else bad)) 3 4)
  (sSeq (sWhile 1000000000 (mAndT (bn2 (mOwn 3) (mLst (ret [])) fun x y => lft (dNe x y)) (bn2 (mB1 (mOwn 4) dLen) (mVar 2) fun x y => lft (dLt x y))) (sSeq (sPop 3 (sSet 5))
  (sIf (bn2 (ret .non) (mVar 5) fun x y => lft (dNotIn x y)) (sApp 4 (mVar 5)) (sSeq (sE (mLc (mRngD (mVar 0) (ret (.int 0))) [7] (gpName 7) (ret true) (mCall 2 (mCons (mVar 5) (mCons (mVar 7) (ret []))) f_filled_first)) fun ds => sSet 6 (.lst ds))
  (sExt 3 (bnd (mLc (bnd (mVar 6) asL) [8] (gpName 8) (bn2 (mVar 8) (ret .non) fun x y => lft (dIsNot x y)) (mVar 8)) fun ds => ret (.lst ds)))))))
  (sE (mOwn 4) sRt)))
def f_rows_found : List D → DS → Res D := runFn 9 b_rows_found
theorem sc_rows_found : FnScope ["n", "kind", "most", "waiting", "found", "row", "some", "number", "own"] ["n", "kind", "most"] (defScope s_rows_found) := ⟨rfl, rfl, rfl, by decide +kernel, rfl, by decide +kernel, by decide +kernel⟩
structure D_rows_found (P : Program) (w : World) (K : PySem.W.Frag) (mg : Str → Option Value) (base : Heap) : Prop where
  d_blank_row : Df P w K mg base 1 "blank_row" ["n", "kind"] f_blank_row (top 15)
  d_filled_first : Df P w K mg base 1 "filled_first" ["row", "number"] f_filled_first (top 16)
theorem df_rows_found {P : Program} {w : World} {K : PySem.W.Frag} {mg : Str → Option Value} {base : Heap} {a : Addr} {fd : FuncData} (T : Txt P w K mg) (DD : D_rows_found P w K mg base) (F : Fun K "rows_found" "rows_found" s_rows_found a fd) (hm : mg "rows_found" = some (.ref a)) (hb : Binds K fd ["n", "kind", "most"] []) :
    Df P w K mg base 2 "rows_found" ["n", "kind", "most"] f_rows_found s_rows_found := df_of F hm sc_rows_found hb fun cdv A outer s H E c hp tk =>
  have nd := (sc_rows_found).nd
  (rss_cons (rs_par2 3 4 c.calm nd rfl rfl (by decide) rfl rfl (rv_n (rn_lst (ra_cons (re_call DD.d_blank_row c (by decide) (by rfl) (ra_cons (re_var (pv 0)) (ra_cons (re_var (pv 1)) ra_nil))) ra_nil))) (rv_n (rn_lst ra_nil)) rfl)
  (rss_cons (rs_while 1000000000 hp (rt_w (rw_and (rt_cmp (c_ne c.u64) (rq_var (pv 3)) (RE.q (re_lst ra_nil)) rfl) (rw_and1 (rt_cmp (c_lt c.u0) (RE.q (re_len (by rfl) T.b_len (rq_var (pv 4)))) (RE.q (re_var (pv 2))) rfl)))) (rss_cons (rs_pop (rg_name 5 nd rfl (Or.inr rfl)) (pe_bm0 PySem.F.plainAttrs_list PySem.F.slot_list_pop PySem.F.type_list_pop mt_pop (pv 3)))
  (rss_one (rs_if (rt_cmp (c_notIn c.u) (RE.q (re_non)) (RE.q (re_var (pv 5))) rfl) (rss_one (rs_app (pe_bm PySem.F.plainAttrs_list PySem.F.slot_list_append PySem.F.type_list_append mt_append (pv 4) (pa_cons (re_var (pv 5)) pa_nil)))) (rss_cons (rs_setLc 6 c.calm nd rfl rfl (sw_true rfl rfl rfl rfl) (rif_c (ri_rngD (by rfl) T.b_range (RE.q (re_var (pv 0))) (RE.q (re_int)))) (own := [("number", 7)]) (blkOk_by (by show blkC ["n", "kind", "most", "waiting", "found", "row", "some", "number", "own"] (defScope s_rows_found) _ [("number", 7)] = true; decide +kernel)) (fun _ _ _ _ _ => (rc_name 7 nd rfl (Or.inl rfl) (by decide))) (fun _ _ _ _ _ => rts_nil) (fun _ _ _ _ _ => (re_call DD.d_filled_first c.blk (by decide) (by rfl) (ra_cons (re_var (pv 5)) (ra_cons (re_var (pv 7)) ra_nil)))))
  (rss_one (rs_ext (pe_bm PySem.F.plainAttrs_list PySem.F.slot_list_extend PySem.F.type_list_extend mt_extend (pv 3) (pa_cons (rn_re (rn_lc c.calm nd (ri_c (RE.q (re_var (pv 6)))) (own := [("own", 8)]) (blkOk_by (by show blkC ["n", "kind", "most", "waiting", "found", "row", "some", "number", "own"] (defScope s_rows_found) _ [("own", 8)] = true; decide +kernel)) (fun _ _ _ _ _ => (rc_name 8 nd rfl (Or.inl rfl) (by decide))) (fun _ _ _ _ _ => (rts_one (rt_cmp c_isNot (RE.q (re_var (pv 8))) (RE.q (re_non)) rfl))) (fun _ _ _ _ _ => (re_var (pv 8))))) pa_nil)))))))))
  (rss_one (rs_retQ (rq_var (pv 4))))))
/-! ### gap_rows -/
abbrev s_gap_rows : Stmt := top 18
def b_gap_rows : MS := (sSeq (sDrop (mCall 3 (mCons (mVar 0) (mCons (ret (.int 8)) (mCons (mVar 1) (ret [])))) f_need_gaps))
  (sSeq (sE (mCall 3 (mCons (mVar 0) (mCons (mVar 1) (mCons (bn2 (ret (.int 200)) (ret (.int 1)) fun x y => lft (dAdd x y)) (ret [])))) f_rows_found) (sSet 2))
  (sSeq (sIf (bn2 (mB1 (mVar 2) dLen) (ret (.int 200)) fun x y => lft (dGt x y)) (sRaise1 "TooMany" "most" (ret (.int 200))) sNil)
  (sE (mB1 (mVar 2) dTuple) sRt))))
def f_gap_rows : List D → DS → Res D := runFn 3 b_gap_rows
theorem sc_gap_rows : FnScope ["n", "kind", "found"] ["n", "kind"] (defScope s_gap_rows) := ⟨rfl, rfl, rfl, by decide +kernel, rfl, by decide +kernel, by decide +kernel⟩
structure D_gap_rows (P : Program) (w : World) (K : PySem.W.Frag) (mg : Str → Option Value) (base : Heap) : Prop where
  d_need_gaps : Df P w K mg base 4 "need_gaps" ["n", "most", "kind"] f_need_gaps (top 12)
  d_rows_found : Df P w K mg base 2 "rows_found" ["n", "kind", "most"] f_rows_found (top 17)
theorem df_gap_rows {P : Program} {w : World} {K : PySem.W.Frag} {mg : Str → Option Value} {base : Heap} {a : Addr} {fd : FuncData} (T : Txt P w K mg) (DD : D_gap_rows P w K mg base) (F : Fun K "gap_rows" "gap_rows" s_gap_rows a fd) (hm : mg "gap_rows" = some (.ref a)) (hb : Binds K fd ["n", "kind"] []) :
    Df P w K mg base 5 "gap_rows" ["n", "kind"] f_gap_rows s_gap_rows := df_of F hm sc_gap_rows hb fun cdv A outer s H E c hp tk =>
  have nd := (sc_gap_rows).nd
  (rss_cons (rs_expr (re_call DD.d_need_gaps c (by decide) (by rfl) (ra_cons (re_var (pv 0)) (ra_cons (re_gli (by rfl) T.k_MOST_LISTED) (ra_cons (re_var (pv 1)) ra_nil)))))
  (rss_cons (rs_set 2 nd rfl (Or.inl rfl) (re_call DD.d_rows_found c (by decide) (by rfl) (ra_cons (re_var (pv 0)) (ra_cons (re_var (pv 1)) (ra_cons (re_add (RE.q (re_gli (by rfl) T.k_MOST_GAP_ROWS)) (RE.q (re_int))) ra_nil)))))
  (rss_cons (rs_if (rt_cmp c_gt (RE.q (re_len (by rfl) T.b_len (RE.q (re_var (pv 2))))) (RE.q (re_gli (by rfl) T.k_MOST_GAP_ROWS)) rfl) (rss_one (rs_raise1 c tk T.c_TooMany (by decide) (by rfl) (re_gli (by rfl) T.k_MOST_GAP_ROWS))) rss_nil)
  (rss_one (rs_ret (re_tuple (by rfl) T.b_tuple (RE.q (re_var (pv 2)))))))))
/-! ### pairs_of_four -/
abbrev s_pairs_of_four : Stmt := top 19
def b_pairs_of_four : MS := (sSeq (sE (mLc (mRng2 (ret (.int 1)) (bn2 (bn2 (ret (.int 2)) (mVar 0) fun x y => lft (dMul x y)) (ret (.int 1)) fun x y => lft (dAdd x y))) [2] (gpName 2) (ret true) (mTup (mCons (bn2 (bn2 (bn2 (ret (.int 4)) (mVar 0) fun x y => lft (dMul x y)) (mVar 2) fun x y => lft (dAdd x y)) (ret (.int 1)) fun x y => lft (dSub x y)) (mCons (bn2 (bn2 (bn2 (ret (.int 8)) (mVar 0) fun x y => lft (dMul x y)) (mVar 2) fun x y => lft (dSub x y)) (ret (.int 1)) fun x y => lft (dAdd x y)) (ret []))))) (sOwn 1))
  (sSeq (sExt 1 (bnd (mLc (mRng2 (ret (.int 1)) (bn2 (mVar 0) (ret (.int 1)) fun x y => lft (dSub x y))) [2] (gpName 2) (ret true) (mTup (mCons (mVar 2) (mCons (bn2 (bn2 (bn2 (ret (.int 4)) (mVar 0) fun x y => lft (dMul x y)) (mVar 2) fun x y => lft (dSub x y)) (ret (.int 1)) fun x y => lft (dSub x y)) (ret []))))) fun ds => ret (.lst ds)))
  (sSeq (sExt 1 (bnd (mLc (mRng2 (ret (.int 1)) (bn2 (mVar 0) (ret (.int 1)) fun x y => lft (dSub x y))) [2] (gpName 2) (ret true) (mTup (mCons (bn2 (bn2 (mVar 0) (mVar 2) fun x y => lft (dAdd x y)) (ret (.int 1)) fun x y => lft (dAdd x y)) (mCons (bn2 (bn2 (ret (.int 3)) (mVar 0) fun x y => lft (dMul x y)) (mVar 2) fun x y => lft (dSub x y)) (ret []))))) fun ds => ret (.lst ds)))
  (sE (bn2 (mOwn 1) (mLst (mCons (mTup (mCons (bn2 (mVar 0) (ret (.int 1)) fun x y => lft (dSub x y)) (mCons (bn2 (ret (.int 3)) (mVar 0) fun x y => lft (dMul x y)) (ret [])))) (mCons (mTup (mCons (mVar 0) (mCons (bn2 (mVar 0) (ret (.int 1)) fun x y => lft (dAdd x y)) (ret [])))) (mCons (mTup (mCons (bn2 (ret (.int 2)) (mVar 0) fun x y => lft (dMul x y)) (mCons (bn2 (bn2 (ret (.int 4)) (mVar 0) fun x y => lft (dMul x y)) (ret (.int 1)) fun x y => lft (dSub x y)) (ret [])))) (mCons (mTup (mCons (bn2 (bn2 (ret (.int 2)) (mVar 0) fun x y => lft (dMul x y)) (ret (.int 1)) fun x y => lft (dAdd x y)) (mCons (bn2 (ret (.int 6)) (mVar 0) fun x y => lft (dMul x y)) (ret [])))) (ret [])))))) fun x y => lft (dAdd x y)) sRt))))
def f_pairs_of_four : List D → DS → Res D := runFn 3 b_pairs_of_four
theorem sc_pairs_of_four : FnScope ["s", "found", "i"] ["s"] (defScope s_pairs_of_four) := ⟨rfl, rfl, rfl, by decide +kernel, rfl, by decide +kernel, by decide +kernel⟩
theorem df_pairs_of_four {P : Program} {w : World} {K : PySem.W.Frag} {mg : Str → Option Value} {base : Heap} {a : Addr} {fd : FuncData} (T : Txt P w K mg) (F : Fun K "pairs_of_four" "pairs_of_four" s_pairs_of_four a fd) (hm : mg "pairs_of_four" = some (.ref a)) (hb : Binds K fd ["s"] []) :
    Df P w K mg base 1 "pairs_of_four" ["s"] f_pairs_of_four s_pairs_of_four := df_of F hm sc_pairs_of_four hb fun cdv A outer s H E c hp tk =>
  have nd := (sc_pairs_of_four).nd
  (rss_cons (rs_ownLc 1 c.calm nd rfl rfl (sw_true rfl rfl rfl rfl) (rif_c (ri_rng2 (by rfl) T.b_range (RE.q (re_int)) (RE.q (re_add (RE.q (re_mul (RE.q (re_int)) (RE.q (re_var (pv 0))))) (RE.q (re_int)))))) (own := [("i", 2)]) (blkOk_by (by show blkC ["s", "found", "i"] (defScope s_pairs_of_four) _ [("i", 2)] = true; decide +kernel)) (fun _ _ _ _ _ => (rc_name 2 nd rfl (Or.inl rfl) (by decide))) (fun _ _ _ _ _ => rts_nil) (fun _ _ _ _ _ => (re_tup (ra_cons (re_sub (RE.q (re_add (RE.q (re_mul (RE.q (re_int)) (RE.q (re_var (pv 0))))) (RE.q (re_var (pv 2))))) (RE.q (re_int))) (ra_cons (re_add (RE.q (re_sub (RE.q (re_mul (RE.q (re_int)) (RE.q (re_var (pv 0))))) (RE.q (re_var (pv 2))))) (RE.q (re_int))) ra_nil)))))
  (rss_cons (rs_ext (pe_bm PySem.F.plainAttrs_list PySem.F.slot_list_extend PySem.F.type_list_extend mt_extend (pv 1) (pa_cons (rn_re (rn_lc c.calm nd (rif_c (ri_rng2 (by rfl) T.b_range (RE.q (re_int)) (RE.q (re_sub (RE.q (re_var (pv 0))) (RE.q (re_int)))))) (own := [("i", 2)]) (blkOk_by (by show blkC ["s", "found", "i"] (defScope s_pairs_of_four) _ [("i", 2)] = true; decide +kernel)) (fun _ _ _ _ _ => (rc_name 2 nd rfl (Or.inl rfl) (by decide))) (fun _ _ _ _ _ => rts_nil) (fun _ _ _ _ _ => (re_tup (ra_cons (re_var (pv 2)) (ra_cons (re_sub (RE.q (re_sub (RE.q (re_mul (RE.q (re_int)) (RE.q (re_var (pv 0))))) (RE.q (re_var (pv 2))))) (RE.q (re_int))) ra_nil)))))) pa_nil)))
  (rss_cons (rs_ext (pe_bm PySem.F.plainAttrs_list PySem.F.slot_list_extend PySem.F.type_list_extend mt_extend (pv 1) (pa_cons (rn_re (rn_lc c.calm nd (rif_c (ri_rng2 (by rfl) T.b_range (RE.q (re_int)) (RE.q (re_sub (RE.q (re_var (pv 0))) (RE.q (re_int)))))) (own := [("i", 2)]) (blkOk_by (by show blkC ["s", "found", "i"] (defScope s_pairs_of_four) _ [("i", 2)] = true; decide +kernel)) (fun _ _ _ _ _ => (rc_name 2 nd rfl (Or.inl rfl) (by decide))) (fun _ _ _ _ _ => rts_nil) (fun _ _ _ _ _ => (re_tup (ra_cons (re_add (RE.q (re_add (RE.q (re_var (pv 0))) (RE.q (re_var (pv 2))))) (RE.q (re_int))) (ra_cons (re_sub (RE.q (re_mul (RE.q (re_int)) (RE.q (re_var (pv 0))))) (RE.q (re_var (pv 2)))) ra_nil)))))) pa_nil)))
  (rss_one (rs_ret (re_add (rq_var (pv 1)) (RE.q (re_lst (ra_cons (re_tup (ra_cons (re_sub (RE.q (re_var (pv 0))) (RE.q (re_int))) (ra_cons (re_mul (RE.q (re_int)) (RE.q (re_var (pv 0)))) ra_nil))) (ra_cons (re_tup (ra_cons (re_var (pv 0)) (ra_cons (re_add (RE.q (re_var (pv 0))) (RE.q (re_int))) ra_nil))) (ra_cons (re_tup (ra_cons (re_mul (RE.q (re_int)) (RE.q (re_var (pv 0)))) (ra_cons (re_sub (RE.q (re_mul (RE.q (re_int)) (RE.q (re_var (pv 0))))) (RE.q (re_int))) ra_nil))) (ra_cons (re_tup (ra_cons (re_add (RE.q (re_mul (RE.q (re_int)) (RE.q (re_var (pv 0))))) (RE.q (re_int))) (ra_cons (re_mul (RE.q (re_int)) (RE.q (re_var (pv 0)))) ra_nil))) ra_nil))))))))))))
/-! ### pairs_of_five -/
abbrev s_pairs_of_five : Stmt := top 20
def b_pairs_of_five : MS := (sSeq (sE (mLc (mRng2 (ret (.int 1)) (bn2 (bn2 (ret (.int 2)) (mVar 0) fun x y => lft (dMul x y)) (ret (.int 1)) fun x y => lft (dAdd x y))) [2] (gpName 2) (ret true) (mTup (mCons (bn2 (bn2 (bn2 (ret (.int 4)) (mVar 0) fun x y => lft (dMul x y)) (mVar 2) fun x y => lft (dAdd x y)) (ret (.int 1)) fun x y => lft (dAdd x y)) (mCons (bn2 (bn2 (bn2 (ret (.int 8)) (mVar 0) fun x y => lft (dMul x y)) (mVar 2) fun x y => lft (dSub x y)) (ret (.int 3)) fun x y => lft (dAdd x y)) (ret []))))) (sOwn 1))
  (sSeq (sExt 1 (bnd (mLc (mRng2 (ret (.int 1)) (bn2 (mVar 0) (ret (.int 1)) fun x y => lft (dAdd x y))) [2] (gpName 2) (ret true) (mTup (mCons (mVar 2) (mCons (bn2 (bn2 (bn2 (ret (.int 4)) (mVar 0) fun x y => lft (dMul x y)) (mVar 2) fun x y => lft (dSub x y)) (ret (.int 1)) fun x y => lft (dAdd x y)) (ret []))))) fun ds => ret (.lst ds)))
  (sSeq (sExt 1 (bnd (mLc (mRng2 (ret (.int 1)) (bn2 (mVar 0) (ret (.int 1)) fun x y => lft (dSub x y))) [2] (gpName 2) (ret true) (mTup (mCons (bn2 (bn2 (mVar 0) (mVar 2) fun x y => lft (dAdd x y)) (ret (.int 2)) fun x y => lft (dAdd x y)) (mCons (bn2 (bn2 (bn2 (ret (.int 3)) (mVar 0) fun x y => lft (dMul x y)) (mVar 2) fun x y => lft (dSub x y)) (ret (.int 1)) fun x y => lft (dAdd x y)) (ret []))))) fun ds => ret (.lst ds)))
  (sE (bn2 (mOwn 1) (mLst (mCons (mTup (mCons (bn2 (mVar 0) (ret (.int 1)) fun x y => lft (dAdd x y)) (mCons (bn2 (mVar 0) (ret (.int 2)) fun x y => lft (dAdd x y)) (ret [])))) (mCons (mTup (mCons (bn2 (bn2 (ret (.int 2)) (mVar 0) fun x y => lft (dMul x y)) (ret (.int 1)) fun x y => lft (dAdd x y)) (mCons (bn2 (bn2 (ret (.int 6)) (mVar 0) fun x y => lft (dMul x y)) (ret (.int 2)) fun x y => lft (dAdd x y)) (ret [])))) (mCons (mTup (mCons (bn2 (bn2 (ret (.int 2)) (mVar 0) fun x y => lft (dMul x y)) (ret (.int 2)) fun x y => lft (dAdd x y)) (mCons (bn2 (bn2 (ret (.int 4)) (mVar 0) fun x y => lft (dMul x y)) (ret (.int 1)) fun x y => lft (dAdd x y)) (ret [])))) (ret []))))) fun x y => lft (dAdd x y)) sRt))))
def f_pairs_of_five : List D → DS → Res D := runFn 3 b_pairs_of_five
theorem sc_pairs_of_five : FnScope ["s", "found", "i"] ["s"] (defScope s_pairs_of_five) := ⟨rfl, rfl, rfl, by decide +kernel, rfl, by decide +kernel, by decide +kernel⟩
theorem df_pairs_of_five {P : Program} {w : World} {K : PySem.W.Frag} {mg : Str → Option Value} {base : Heap} {a : Addr} {fd : FuncData} (T : Txt P w K mg) (F : Fun K "pairs_of_five" "pairs_of_five" s_pairs_of_five a fd) (hm : mg "pairs_of_five" = some (.ref a)) (hb : Binds K fd ["s"] []) :
    Df P w K mg base 1 "pairs_of_five" ["s"] f_pairs_of_five s_pairs_of_five := df_of F hm sc_pairs_of_five hb fun cdv A outer s H E c hp tk =>
  have nd := (sc_pairs_of_five).nd
  (rss_cons (rs_ownLc 1 c.calm nd rfl rfl (sw_true rfl rfl rfl rfl) (rif_c (ri_rng2 (by rfl) T.b_range (RE.q (re_int)) (RE.q (re_add (RE.q (re_mul (RE.q (re_int)) (RE.q (re_var (pv 0))))) (RE.q (re_int)))))) (own := [("i", 2)]) (blkOk_by (by show blkC ["s", "found", "i"] (defScope s_pairs_of_five) _ [("i", 2)] = true; decide +kernel)) (fun _ _ _ _ _ => (rc_name 2 nd rfl (Or.inl rfl) (by decide))) (fun _ _ _ _ _ => rts_nil) (fun _ _ _ _ _ => (re_tup (ra_cons (re_add (RE.q (re_add (RE.q (re_mul (RE.q (re_int)) (RE.q (re_var (pv 0))))) (RE.q (re_var (pv 2))))) (RE.q (re_int))) (ra_cons (re_add (RE.q (re_sub (RE.q (re_mul (RE.q (re_int)) (RE.q (re_var (pv 0))))) (RE.q (re_var (pv 2))))) (RE.q (re_int))) ra_nil)))))
  (rss_cons (rs_ext (pe_bm PySem.F.plainAttrs_list PySem.F.slot_list_extend PySem.F.type_list_extend mt_extend (pv 1) (pa_cons (rn_re (rn_lc c.calm nd (rif_c (ri_rng2 (by rfl) T.b_range (RE.q (re_int)) (RE.q (re_add (RE.q (re_var (pv 0))) (RE.q (re_int)))))) (own := [("i", 2)]) (blkOk_by (by show blkC ["s", "found", "i"] (defScope s_pairs_of_five) _ [("i", 2)] = true; decide +kernel)) (fun _ _ _ _ _ => (rc_name 2 nd rfl (Or.inl rfl) (by decide))) (fun _ _ _ _ _ => rts_nil) (fun _ _ _ _ _ => (re_tup (ra_cons (re_var (pv 2)) (ra_cons (re_add (RE.q (re_sub (RE.q (re_mul (RE.q (re_int)) (RE.q (re_var (pv 0))))) (RE.q (re_var (pv 2))))) (RE.q (re_int))) ra_nil)))))) pa_nil)))
  (rss_cons (rs_ext (pe_bm PySem.F.plainAttrs_list PySem.F.slot_list_extend PySem.F.type_list_extend mt_extend (pv 1) (pa_cons (rn_re (rn_lc c.calm nd (rif_c (ri_rng2 (by rfl) T.b_range (RE.q (re_int)) (RE.q (re_sub (RE.q (re_var (pv 0))) (RE.q (re_int)))))) (own := [("i", 2)]) (blkOk_by (by show blkC ["s", "found", "i"] (defScope s_pairs_of_five) _ [("i", 2)] = true; decide +kernel)) (fun _ _ _ _ _ => (rc_name 2 nd rfl (Or.inl rfl) (by decide))) (fun _ _ _ _ _ => rts_nil) (fun _ _ _ _ _ => (re_tup (ra_cons (re_add (RE.q (re_add (RE.q (re_var (pv 0))) (RE.q (re_var (pv 2))))) (RE.q (re_int))) (ra_cons (re_add (RE.q (re_sub (RE.q (re_mul (RE.q (re_int)) (RE.q (re_var (pv 0))))) (RE.q (re_var (pv 2))))) (RE.q (re_int))) ra_nil)))))) pa_nil)))
  (rss_one (rs_ret (re_add (rq_var (pv 1)) (RE.q (re_lst (ra_cons (re_tup (ra_cons (re_add (RE.q (re_var (pv 0))) (RE.q (re_int))) (ra_cons (re_add (RE.q (re_var (pv 0))) (RE.q (re_int))) ra_nil))) (ra_cons (re_tup (ra_cons (re_add (RE.q (re_mul (RE.q (re_int)) (RE.q (re_var (pv 0))))) (RE.q (re_int))) (ra_cons (re_add (RE.q (re_mul (RE.q (re_int)) (RE.q (re_var (pv 0))))) (RE.q (re_int))) ra_nil))) (ra_cons (re_tup (ra_cons (re_add (RE.q (re_mul (RE.q (re_int)) (RE.q (re_var (pv 0))))) (RE.q (re_int))) (ra_cons (re_add (RE.q (re_mul (RE.q (re_int)) (RE.q (re_var (pv 0))))) (RE.q (re_int))) ra_nil))) ra_nil)))))))))))
/-! ### pairs_of_six -/
abbrev s_pairs_of_six : Stmt := top 21
def b_pairs_of_six : MS := (sSeq (sE (mLc (mRng2 (ret (.int 1)) (bn2 (bn2 (ret (.int 2)) (mVar 0) fun x y => lft (dMul x y)) (ret (.int 1)) fun x y => lft (dAdd x y))) [2] (gpName 2) (ret true) (mTup (mCons (mVar 2) (mCons (bn2 (bn2 (bn2 (ret (.int 4)) (mVar 0) fun x y => lft (dMul x y)) (mVar 2) fun x y => lft (dSub x y)) (ret (.int 2)) fun x y => lft (dAdd x y)) (ret []))))) (sOwn 1))
  (sSeq (sExt 1 (bnd (mLc (mRng2 (ret (.int 1)) (mVar 0)) [2] (gpName 2) (ret true) (mTup (mCons (bn2 (bn2 (bn2 (ret (.int 4)) (mVar 0) fun x y => lft (dMul x y)) (mVar 2) fun x y => lft (dAdd x y)) (ret (.int 3)) fun x y => lft (dAdd x y)) (mCons (bn2 (bn2 (bn2 (ret (.int 8)) (mVar 0) fun x y => lft (dMul x y)) (mVar 2) fun x y => lft (dSub x y)) (ret (.int 4)) fun x y => lft (dAdd x y)) (ret []))))) fun ds => ret (.lst ds)))
  (sSeq (sExt 1 (bnd (mLc (mRng2 (ret (.int 1)) (mVar 0)) [2] (gpName 2) (ret true) (mTup (mCons (bn2 (bn2 (bn2 (ret (.int 5)) (mVar 0) fun x y => lft (dMul x y)) (mVar 2) fun x y => lft (dAdd x y)) (ret (.int 2)) fun x y => lft (dAdd x y)) (mCons (bn2 (bn2 (bn2 (ret (.int 7)) (mVar 0) fun x y => lft (dMul x y)) (mVar 2) fun x y => lft (dSub x y)) (ret (.int 3)) fun x y => lft (dAdd x y)) (ret []))))) fun ds => ret (.lst ds)))
  (sE (bn2 (mOwn 1) (mLst (mCons (mTup (mCons (bn2 (bn2 (ret (.int 2)) (mVar 0) fun x y => lft (dMul x y)) (ret (.int 1)) fun x y => lft (dAdd x y)) (mCons (bn2 (bn2 (ret (.int 6)) (mVar 0) fun x y => lft (dMul x y)) (ret (.int 2)) fun x y => lft (dAdd x y)) (ret [])))) (mCons (mTup (mCons (bn2 (bn2 (ret (.int 4)) (mVar 0) fun x y => lft (dMul x y)) (ret (.int 2)) fun x y => lft (dAdd x y)) (mCons (bn2 (bn2 (ret (.int 6)) (mVar 0) fun x y => lft (dMul x y)) (ret (.int 3)) fun x y => lft (dAdd x y)) (ret [])))) (mCons (mTup (mCons (bn2 (bn2 (ret (.int 4)) (mVar 0) fun x y => lft (dMul x y)) (ret (.int 3)) fun x y => lft (dAdd x y)) (mCons (bn2 (bn2 (ret (.int 8)) (mVar 0) fun x y => lft (dMul x y)) (ret (.int 5)) fun x y => lft (dAdd x y)) (ret [])))) (mCons (mTup (mCons (bn2 (bn2 (ret (.int 7)) (mVar 0) fun x y => lft (dMul x y)) (ret (.int 3)) fun x y => lft (dAdd x y)) (mCons (bn2 (bn2 (ret (.int 7)) (mVar 0) fun x y => lft (dMul x y)) (ret (.int 4)) fun x y => lft (dAdd x y)) (ret [])))) (ret [])))))) fun x y => lft (dAdd x y)) sRt))))
def f_pairs_of_six : List D → DS → Res D := runFn 3 b_pairs_of_six
theorem sc_pairs_of_six : FnScope ["s", "found", "i"] ["s"] (defScope s_pairs_of_six) := ⟨rfl, rfl, rfl, by decide +kernel, rfl, by decide +kernel, by decide +kernel⟩
theorem df_pairs_of_six {P : Program} {w : World} {K : PySem.W.Frag} {mg : Str → Option Value} {base : Heap} {a : Addr} {fd : FuncData} (T : Txt P w K mg) (F : Fun K "pairs_of_six" "pairs_of_six" s_pairs_of_six a fd) (hm : mg "pairs_of_six" = some (.ref a)) (hb : Binds K fd ["s"] []) :
    Df P w K mg base 1 "pairs_of_six" ["s"] f_pairs_of_six s_pairs_of_six := df_of F hm sc_pairs_of_six hb fun cdv A outer s H E c hp tk =>
  have nd := (sc_pairs_of_six).nd
  (rss_cons (rs_ownLc 1 c.calm nd rfl rfl (sw_true rfl rfl rfl rfl) (rif_c (ri_rng2 (by rfl) T.b_range (RE.q (re_int)) (RE.q (re_add (RE.q (re_mul (RE.q (re_int)) (RE.q (re_var (pv 0))))) (RE.q (re_int)))))) (own := [("i", 2)]) (blkOk_by (by show blkC ["s", "found", "i"] (defScope s_pairs_of_six) _ [("i", 2)] = true; decide +kernel)) (fun _ _ _ _ _ => (rc_name 2 nd rfl (Or.inl rfl) (by decide))) (fun _ _ _ _ _ => rts_nil) (fun _ _ _ _ _ => (re_tup (ra_cons (re_var (pv 2)) (ra_cons (re_add (RE.q (re_sub (RE.q (re_mul (RE.q (re_int)) (RE.q (re_var (pv 0))))) (RE.q (re_var (pv 2))))) (RE.q (re_int))) ra_nil)))))
  (rss_cons (rs_ext (pe_bm PySem.F.plainAttrs_list PySem.F.slot_list_extend PySem.F.type_list_extend mt_extend (pv 1) (pa_cons (rn_re (rn_lc c.calm nd (rif_c (ri_rng2 (by rfl) T.b_range (RE.q (re_int)) (RE.q (re_var (pv 0))))) (own := [("i", 2)]) (blkOk_by (by show blkC ["s", "found", "i"] (defScope s_pairs_of_six) _ [("i", 2)] = true; decide +kernel)) (fun _ _ _ _ _ => (rc_name 2 nd rfl (Or.inl rfl) (by decide))) (fun _ _ _ _ _ => rts_nil) (fun _ _ _ _ _ => (re_tup (ra_cons (re_add (RE.q (re_add (RE.q (re_mul (RE.q (re_int)) (RE.q (re_var (pv 0))))) (RE.q (re_var (pv 2))))) (RE.q (re_int))) (ra_cons (re_add (RE.q (re_sub (RE.q (re_mul (RE.q (re_int)) (RE.q (re_var (pv 0))))) (RE.q (re_var (pv 2))))) (RE.q (re_int))) ra_nil)))))) pa_nil)))
  (rss_cons (rs_ext (pe_bm PySem.F.plainAttrs_list PySem.F.slot_list_extend PySem.F.type_list_extend mt_extend (pv 1) (pa_cons (rn_re (rn_lc c.calm nd (rif_c (ri_rng2 (by rfl) T.b_range (RE.q (re_int)) (RE.q (re_var (pv 0))))) (own := [("i", 2)]) (blkOk_by (by show blkC ["s", "found", "i"] (defScope s_pairs_of_six) _ [("i", 2)] = true; decide +kernel)) (fun _ _ _ _ _ => (rc_name 2 nd rfl (Or.inl rfl) (by decide))) (fun _ _ _ _ _ => rts_nil) (fun _ _ _ _ _ => (re_tup (ra_cons (re_add (RE.q (re_add (RE.q (re_mul (RE.q (re_int)) (RE.q (re_var (pv 0))))) (RE.q (re_var (pv 2))))) (RE.q (re_int))) (ra_cons (re_add (RE.q (re_sub (RE.q (re_mul (RE.q (re_int)) (RE.q (re_var (pv 0))))) (RE.q (re_var (pv 2))))) (RE.q (re_int))) ra_nil)))))) pa_nil)))
  (rss_one (rs_ret (re_add (rq_var (pv 1)) (RE.q (re_lst (ra_cons (re_tup (ra_cons (re_add (RE.q (re_mul (RE.q (re_int)) (RE.q (re_var (pv 0))))) (RE.q (re_int))) (ra_cons (re_add (RE.q (re_mul (RE.q (re_int)) (RE.q (re_var (pv 0))))) (RE.q (re_int))) ra_nil))) (ra_cons (re_tup (ra_cons (re_add (RE.q (re_mul (RE.q (re_int)) (RE.q (re_var (pv 0))))) (RE.q (re_int))) (ra_cons (re_add (RE.q (re_mul (RE.q (re_int)) (RE.q (re_var (pv 0))))) (RE.q (re_int))) ra_nil))) (ra_cons (re_tup (ra_cons (re_add (RE.q (re_mul (RE.q (re_int)) (RE.q (re_var (pv 0))))) (RE.q (re_int))) (ra_cons (re_add (RE.q (re_mul (RE.q (re_int)) (RE.q (re_var (pv 0))))) (RE.q (re_int))) ra_nil))) (ra_cons (re_tup (ra_cons (re_add (RE.q (re_mul (RE.q (re_int)) (RE.q (re_var (pv 0))))) (RE.q (re_int))) (ra_cons (re_add (RE.q (re_mul (RE.q (re_int)) (RE.q (re_var (pv 0))))) (RE.q (re_int))) ra_nil))) ra_nil))))))))))))
/-! ### pairs_of_seven -/
abbrev s_pairs_of_seven : Stmt := top 22
def b_pairs_of_seven : MS := (sSeq (sE (mLc (mRng2 (ret (.int 1)) (bn2 (bn2 (ret (.int 2)) (mVar 0) fun x y => lft (dMul x y)) (ret (.int 1)) fun x y => lft (dSub x y))) [2] (gpName 2) (ret true) (mTup (mCons (bn2 (bn2 (ret (.int 4)) (mVar 0) fun x y => lft (dMul x y)) (mVar 2) fun x y => lft (dAdd x y)) (mCons (bn2 (bn2 (bn2 (ret (.int 8)) (mVar 0) fun x y => lft (dMul x y)) (mVar 2) fun x y => lft (dSub x y)) (ret (.int 2)) fun x y => lft (dSub x y)) (ret []))))) (sOwn 1))
  (sSeq (sExt 1 (bnd (mLc (mRng2 (ret (.int 1)) (bn2 (mVar 0) (ret (.int 1)) fun x y => lft (dSub x y))) [2] (gpName 2) (ret true) (mTup (mCons (mVar 2) (mCons (bn2 (bn2 (bn2 (ret (.int 4)) (mVar 0) fun x y => lft (dMul x y)) (mVar 2) fun x y => lft (dSub x y)) (ret (.int 1)) fun x y => lft (dSub x y)) (ret []))))) fun ds => ret (.lst ds)))
  (sSeq (sExt 1 (bnd (mLc (mRng2 (ret (.int 1)) (bn2 (mVar 0) (ret (.int 1)) fun x y => lft (dSub x y))) [2] (gpName 2) (ret true) (mTup (mCons (bn2 (bn2 (mVar 0) (mVar 2) fun x y => lft (dAdd x y)) (ret (.int 1)) fun x y => lft (dAdd x y)) (mCons (bn2 (bn2 (ret (.int 3)) (mVar 0) fun x y => lft (dMul x y)) (mVar 2) fun x y => lft (dSub x y)) (ret []))))) fun ds => ret (.lst ds)))
  (sE (bn2 (mOwn 1) (mLst (mCons (mTup (mCons (bn2 (mVar 0) (ret (.int 1)) fun x y => lft (dSub x y)) (mCons (bn2 (ret (.int 3)) (mVar 0) fun x y => lft (dMul x y)) (ret [])))) (mCons (mTup (mCons (mVar 0) (mCons (bn2 (mVar 0) (ret (.int 1)) fun x y => lft (dAdd x y)) (ret [])))) (mCons (mTup (mCons (bn2 (ret (.int 2)) (mVar 0) fun x y => lft (dMul x y)) (mCons (bn2 (bn2 (ret (.int 4)) (mVar 0) fun x y => lft (dMul x y)) (ret (.int 1)) fun x y => lft (dSub x y)) (ret [])))) (mCons (mTup (mCons (bn2 (bn2 (ret (.int 2)) (mVar 0) fun x y => lft (dMul x y)) (ret (.int 1)) fun x y => lft (dAdd x y)) (mCons (bn2 (bn2 (ret (.int 6)) (mVar 0) fun x y => lft (dMul x y)) (ret (.int 1)) fun x y => lft (dSub x y)) (ret [])))) (mCons (mTup (mCons (bn2 (ret (.int 4)) (mVar 0) fun x y => lft (dMul x y)) (mCons (bn2 (bn2 (ret (.int 8)) (mVar 0) fun x y => lft (dMul x y)) (ret (.int 1)) fun x y => lft (dSub x y)) (ret [])))) (ret []))))))) fun x y => lft (dAdd x y)) sRt))))
def f_pairs_of_seven : List D → DS → Res D := runFn 3 b_pairs_of_seven
theorem sc_pairs_of_seven : FnScope ["s", "found", "i"] ["s"] (defScope s_pairs_of_seven) := ⟨rfl, rfl, rfl, by decide +kernel, rfl, by decide +kernel, by decide +kernel⟩
theorem df_pairs_of_seven {P : Program} {w : World} {K : PySem.W.Frag} {mg : Str → Option Value} {base : Heap} {a : Addr} {fd : FuncData} (T : Txt P w K mg) (F : Fun K "pairs_of_seven" "pairs_of_seven" s_pairs_of_seven a fd) (hm : mg "pairs_of_seven" = some (.ref a)) (hb : Binds K fd ["s"] []) :
    Df P w K mg base 1 "pairs_of_seven" ["s"] f_pairs_of_seven s_pairs_of_seven := df_of F hm sc_pairs_of_seven hb fun cdv A outer s H E c hp tk =>
  have nd := (sc_pairs_of_seven).nd
  (rss_cons (rs_ownLc 1 c.calm nd rfl rfl (sw_true rfl rfl rfl rfl) (rif_c (ri_rng2 (by rfl) T.b_range (RE.q (re_int)) (RE.q (re_sub (RE.q (re_mul (RE.q (re_int)) (RE.q (re_var (pv 0))))) (RE.q (re_int)))))) (own := [("i", 2)]) (blkOk_by (by show blkC ["s", "found", "i"] (defScope s_pairs_of_seven) _ [("i", 2)] = true; decide +kernel)) (fun _ _ _ _ _ => (rc_name 2 nd rfl (Or.inl rfl) (by decide))) (fun _ _ _ _ _ => rts_nil) (fun _ _ _ _ _ => (re_tup (ra_cons (re_add (RE.q (re_mul (RE.q (re_int)) (RE.q (re_var (pv 0))))) (RE.q (re_var (pv 2)))) (ra_cons (re_sub (RE.q (re_sub (RE.q (re_mul (RE.q (re_int)) (RE.q (re_var (pv 0))))) (RE.q (re_var (pv 2))))) (RE.q (re_int))) ra_nil)))))
  (rss_cons (rs_ext (pe_bm PySem.F.plainAttrs_list PySem.F.slot_list_extend PySem.F.type_list_extend mt_extend (pv 1) (pa_cons (rn_re (rn_lc c.calm nd (rif_c (ri_rng2 (by rfl) T.b_range (RE.q (re_int)) (RE.q (re_sub (RE.q (re_var (pv 0))) (RE.q (re_int)))))) (own := [("i", 2)]) (blkOk_by (by show blkC ["s", "found", "i"] (defScope s_pairs_of_seven) _ [("i", 2)] = true; decide +kernel)) (fun _ _ _ _ _ => (rc_name 2 nd rfl (Or.inl rfl) (by decide))) (fun _ _ _ _ _ => rts_nil) (fun _ _ _ _ _ => (re_tup (ra_cons (re_var (pv 2)) (ra_cons (re_sub (RE.q (re_sub (RE.q (re_mul (RE.q (re_int)) (RE.q (re_var (pv 0))))) (RE.q (re_var (pv 2))))) (RE.q (re_int))) ra_nil)))))) pa_nil)))
  (rss_cons (rs_ext (pe_bm PySem.F.plainAttrs_list PySem.F.slot_list_extend PySem.F.type_list_extend mt_extend (pv 1) (pa_cons (rn_re (rn_lc c.calm nd (rif_c (ri_rng2 (by rfl) T.b_range (RE.q (re_int)) (RE.q (re_sub (RE.q (re_var (pv 0))) (RE.q (re_int)))))) (own := [("i", 2)]) (blkOk_by (by show blkC ["s", "found", "i"] (defScope s_pairs_of_seven) _ [("i", 2)] = true; decide +kernel)) (fun _ _ _ _ _ => (rc_name 2 nd rfl (Or.inl rfl) (by decide))) (fun _ _ _ _ _ => rts_nil) (fun _ _ _ _ _ => (re_tup (ra_cons (re_add (RE.q (re_add (RE.q (re_var (pv 0))) (RE.q (re_var (pv 2))))) (RE.q (re_int))) (ra_cons (re_sub (RE.q (re_mul (RE.q (re_int)) (RE.q (re_var (pv 0))))) (RE.q (re_var (pv 2)))) ra_nil)))))) pa_nil)))
  (rss_one (rs_ret (re_add (rq_var (pv 1)) (RE.q (re_lst (ra_cons (re_tup (ra_cons (re_sub (RE.q (re_var (pv 0))) (RE.q (re_int))) (ra_cons (re_mul (RE.q (re_int)) (RE.q (re_var (pv 0)))) ra_nil))) (ra_cons (re_tup (ra_cons (re_var (pv 0)) (ra_cons (re_add (RE.q (re_var (pv 0))) (RE.q (re_int))) ra_nil))) (ra_cons (re_tup (ra_cons (re_mul (RE.q (re_int)) (RE.q (re_var (pv 0)))) (ra_cons (re_sub (RE.q (re_mul (RE.q (re_int)) (RE.q (re_var (pv 0))))) (RE.q (re_int))) ra_nil))) (ra_cons (re_tup (ra_cons (re_add (RE.q (re_mul (RE.q (re_int)) (RE.q (re_var (pv 0))))) (RE.q (re_int))) (ra_cons (re_sub (RE.q (re_mul (RE.q (re_int)) (RE.q (re_var (pv 0))))) (RE.q (re_int))) ra_nil))) (ra_cons (re_tup (ra_cons (re_mul (RE.q (re_int)) (RE.q (re_var (pv 0)))) (ra_cons (re_sub (RE.q (re_mul (RE.q (re_int)) (RE.q (re_var (pv 0))))) (RE.q (re_int))) ra_nil))) ra_nil)))))))))))))
/-! ### row_by_places -/
abbrev s_row_by_places : Stmt := top 23
def b_row_by_places : MS := (sSeq (sE (bn2 (mLst (mCons (ret (.int 0)) (ret []))) (mVar 0) repL) (sOwn 2))
  (sSeq (sFor (bnd (mVar 1) asL) (gpTup 2 (gpCons (gpName 3) (gpCons (gpName 4) gpNil))) (sSeq (sE (bn2 (mVar 4) (mVar 3) fun x y => lft (dSub x y)) fun d => sSeq (sTg ((gIt 2 (bn2 (mVar 3) (ret (.int 1)) fun x y => lft (dSub x y))) d)) sNil)
  (sE (bn2 (mVar 4) (mVar 3) fun x y => lft (dSub x y)) fun d => sSeq (sTg ((gIt 2 (bn2 (mVar 4) (ret (.int 1)) fun x y => lft (dSub x y))) d)) sNil)))
  (sE (mB1 (mOwn 2) dTuple) sRt)))
def f_row_by_places : List D → DS → Res D := runFn 5 b_row_by_places
theorem sc_row_by_places : FnScope ["size", "pairs", "found", "first", "second"] ["size", "pairs"] (defScope s_row_by_places) := ⟨rfl, rfl, rfl, by decide +kernel, rfl, by decide +kernel, by decide +kernel⟩
theorem df_row_by_places {P : Program} {w : World} {K : PySem.W.Frag} {mg : Str → Option Value} {base : Heap} {a : Addr} {fd : FuncData} (T : Txt P w K mg) (F : Fun K "row_by_places" "row_by_places" s_row_by_places a fd) (hm : mg "row_by_places" = some (.ref a)) (hb : Binds K fd ["size", "pairs"] []) :
    Df P w K mg base 1 "row_by_places" ["size", "pairs"] f_row_by_places s_row_by_places := df_of F hm sc_row_by_places hb fun cdv A outer s H E c hp tk =>
  have nd := (sc_row_by_places).nd
  (rss_cons (rs_own 2 nd rfl (Or.inl rfl) (rn_mul (RE.q (re_lst (ra_cons (re_int) ra_nil))) (RE.q (re_var (pv 0)))))
  (rss_cons (rs_for (vs := [3, 4]) hp c.calm (ri_f (re_var (pv 1))) (rc_tup c.calm (rcs_cons (rc_name 3 nd rfl (Or.inl rfl) (by decide)) (rcs_cons (rc_name 4 nd rfl (Or.inl rfl) (by decide)) rcs_nil))) (rss_cons (rs_asg (re_sub (RE.q (re_var (pv 4))) (RE.q (re_var (pv 3)))) (rg_it (pv 2) (re_sub (RE.q (re_var (pv 3))) (RE.q (re_int)))))
  (rss_one (rs_asg (re_sub (RE.q (re_var (pv 4))) (RE.q (re_var (pv 3)))) (rg_it (pv 2) (re_sub (RE.q (re_var (pv 4))) (RE.q (re_int))))))))
  (rss_one (rs_ret (re_tuple (by rfl) T.b_tuple (rq_var (pv 2)))))))
/-! ### great_row -/
abbrev s_great_row : Stmt := top 24
def b_great_row : MS := (sSeq (sE (bn2 (bn2 (mVar 0) (ret (.int 1)) fun x y => lft (dAdd x y)) (ret (.int 4)) fun x y => lft (dDiv x y)) (sSet 1))
  (sSeq (sIf (bn2 (bn2 (mVar 0) (ret (.int 4)) fun x y => lft (dMod x y)) (ret (.int 0)) fun x y => lft (dEq x y)) (sE (mCall 2 (mCons (bn2 (ret (.int 2)) (mVar 0) fun x y => lft (dMul x y)) (mCons (mCall 1 (mCons (mVar 1) (ret [])) f_pairs_of_four) (ret []))) f_row_by_places) sRt) sNil)
  (sSeq (sIf (bn2 (bn2 (mVar 0) (ret (.int 4)) fun x y => lft (dMod x y)) (ret (.int 1)) fun x y => lft (dEq x y)) (sE (mCall 2 (mCons (bn2 (ret (.int 2)) (mVar 0) fun x y => lft (dMul x y)) (mCons (mCall 1 (mCons (mVar 1) (ret [])) f_pairs_of_five) (ret []))) f_row_by_places) sRt) sNil)
  (sSeq (sIf (bn2 (bn2 (mVar 0) (ret (.int 4)) fun x y => lft (dMod x y)) (ret (.int 2)) fun x y => lft (dEq x y)) (sE (mCall 2 (mCons (bn2 (bn2 (ret (.int 2)) (mVar 0) fun x y => lft (dMul x y)) (ret (.int 1)) fun x y => lft (dAdd x y)) (mCons (mCall 1 (mCons (mVar 1) (ret [])) f_pairs_of_six) (ret []))) f_row_by_places) sRt) sNil)
  (sE (mCall 2 (mCons (bn2 (bn2 (ret (.int 2)) (mVar 0) fun x y => lft (dMul x y)) (ret (.int 1)) fun x y => lft (dAdd x y)) (mCons (mCall 1 (mCons (mVar 1) (ret [])) f_pairs_of_seven) (ret []))) f_row_by_places) sRt)))))
def f_great_row : List D → DS → Res D := runFn 2 b_great_row
theorem sc_great_row : FnScope ["n", "s"] ["n"] (defScope s_great_row) := ⟨rfl, rfl, rfl, by decide +kernel, rfl, by decide +kernel, by decide +kernel⟩
structure D_great_row (P : Program) (w : World) (K : PySem.W.Frag) (mg : Str → Option Value) (base : Heap) : Prop where
  d_row_by_places : Df P w K mg base 1 "row_by_places" ["size", "pairs"] f_row_by_places (top 23)
  d_pairs_of_four : Df P w K mg base 1 "pairs_of_four" ["s"] f_pairs_of_four (top 19)
  d_pairs_of_five : Df P w K mg base 1 "pairs_of_five" ["s"] f_pairs_of_five (top 20)
  d_pairs_of_six : Df P w K mg base 1 "pairs_of_six" ["s"] f_pairs_of_six (top 21)
  d_pairs_of_seven : Df P w K mg base 1 "pairs_of_seven" ["s"] f_pairs_of_seven (top 22)
theorem df_great_row {P : Program} {w : World} {K : PySem.W.Frag} {mg : Str → Option Value} {base : Heap} {a : Addr} {fd : FuncData} (T : Txt P w K mg) (DD : D_great_row P w K mg base) (F : Fun K "great_row" "great_row" s_great_row a fd) (hm : mg "great_row" = some (.ref a)) (hb : Binds K fd ["n"] []) :
    Df P w K mg base 2 "great_row" ["n"] f_great_row s_great_row := df_of F hm sc_great_row hb fun cdv A outer s H E c hp tk =>
  have nd := (sc_great_row).nd
  (rss_cons (rs_set 1 nd rfl (Or.inl rfl) (re_div (RE.q (re_add (RE.q (re_var (pv 0))) (RE.q (re_int)))) (RE.q (re_int))))
  (rss_cons (rs_if (rt_cmp (c_eq c.u64) (RE.q (re_mod (RE.q (re_var (pv 0))) (RE.q (re_int)))) (RE.q (re_int)) rfl) (rss_one (rs_ret (re_call DD.d_row_by_places c (by decide) (by rfl) (ra_cons (re_mul (RE.q (re_int)) (RE.q (re_var (pv 0)))) (ra_cons (re_call DD.d_pairs_of_four c (by decide) (by rfl) (ra_cons (re_var (pv 1)) ra_nil)) ra_nil))))) rss_nil)
  (rss_cons (rs_if (rt_cmp (c_eq c.u64) (RE.q (re_mod (RE.q (re_var (pv 0))) (RE.q (re_int)))) (RE.q (re_int)) rfl) (rss_one (rs_ret (re_call DD.d_row_by_places c (by decide) (by rfl) (ra_cons (re_mul (RE.q (re_int)) (RE.q (re_var (pv 0)))) (ra_cons (re_call DD.d_pairs_of_five c (by decide) (by rfl) (ra_cons (re_var (pv 1)) ra_nil)) ra_nil))))) rss_nil)
  (rss_cons (rs_if (rt_cmp (c_eq c.u64) (RE.q (re_mod (RE.q (re_var (pv 0))) (RE.q (re_int)))) (RE.q (re_int)) rfl) (rss_one (rs_ret (re_call DD.d_row_by_places c (by decide) (by rfl) (ra_cons (re_add (RE.q (re_mul (RE.q (re_int)) (RE.q (re_var (pv 0))))) (RE.q (re_int))) (ra_cons (re_call DD.d_pairs_of_six c (by decide) (by rfl) (ra_cons (re_var (pv 1)) ra_nil)) ra_nil))))) rss_nil)
  (rss_one (rs_ret (re_call DD.d_row_by_places c (by decide) (by rfl) (ra_cons (re_add (RE.q (re_mul (RE.q (re_int)) (RE.q (re_var (pv 0))))) (RE.q (re_int))) (ra_cons (re_call DD.d_pairs_of_seven c (by decide) (by rfl) (ra_cons (re_var (pv 1)) ra_nil)) ra_nil)))))))))
/-! ### gap_row -/
abbrev s_gap_row : Stmt := top 25
def b_gap_row : MS := (sSeq (sDrop (mCall 3 (mCons (mVar 0) (mCons (ret (.int 40)) (mCons (mVar 1) (ret [])))) f_need_gaps))
  (sSeq (sIf (bn2 (bn2 (bn2 (mVar 0) (ret (.int 4)) fun x y => lft (dMod x y)) (mTup (mCons (ret (.int 0)) (mCons (ret (.int 1)) (ret [])))) fun x y => lft (mB (dIn x y))) (bn2 (mVar 1) (ret (.str "whole")) fun x y => lft (mB (dEq x y))) fun x y => lft (dNe x y)) (sE (ret .non) sRt) sNil)
  (sE (mIf (bn2 (mVar 0) (ret (.int 5)) fun x y => lft (dGt x y)) (mCall 1 (mCons (mVar 0) (ret [])) f_great_row) (bn2 (mCall 3 (mCons (mVar 0) (mCons (mVar 1) (mCons (ret (.int 1)) (ret [])))) f_rows_found) (ret (.int 0)) fun x y => lft (dIx x y))) sRt)))
def f_gap_row : List D → DS → Res D := runFn 2 b_gap_row
theorem sc_gap_row : FnScope ["n", "kind"] ["n", "kind"] (defScope s_gap_row) := ⟨rfl, rfl, rfl, by decide +kernel, rfl, by decide +kernel, by decide +kernel⟩
structure D_gap_row (P : Program) (w : World) (K : PySem.W.Frag) (mg : Str → Option Value) (base : Heap) : Prop where
  d_need_gaps : Df P w K mg base 4 "need_gaps" ["n", "most", "kind"] f_need_gaps (top 12)
  d_great_row : Df P w K mg base 2 "great_row" ["n"] f_great_row (top 24)
  d_rows_found : Df P w K mg base 2 "rows_found" ["n", "kind", "most"] f_rows_found (top 17)
theorem df_gap_row {P : Program} {w : World} {K : PySem.W.Frag} {mg : Str → Option Value} {base : Heap} {a : Addr} {fd : FuncData} (T : Txt P w K mg) (DD : D_gap_row P w K mg base) (F : Fun K "gap_row" "gap_row" s_gap_row a fd) (hm : mg "gap_row" = some (.ref a)) (hb : Binds K fd ["n", "kind"] []) :
    Df P w K mg base 5 "gap_row" ["n", "kind"] f_gap_row s_gap_row := df_of F hm sc_gap_row hb fun cdv A outer s H E c hp tk =>
  have nd := (sc_gap_row).nd
  (rss_cons (rs_expr (re_call DD.d_need_gaps c (by decide) (by rfl) (ra_cons (re_var (pv 0)) (ra_cons (re_gli (by rfl) T.k_MOST_GAPS) (ra_cons (re_var (pv 1)) ra_nil)))))
  (rss_cons (rs_if (rt_cmp (c_ne c.u64) (RE.q (re_cmp (c_in c.u) (RE.q (re_mod (RE.q (re_var (pv 0))) (RE.q (re_int)))) (RE.q (re_tup (ra_cons (re_int) (ra_cons (re_int) ra_nil)))) rfl)) (RE.q (re_cmp (c_eq c.u64) (RE.q (re_var (pv 1))) (RE.q (re_str)) rfl)) rfl) (rss_one (rs_ret (re_non))) rss_nil)
  (rss_one (rs_ret (re_if (rt_cmp c_gt (RE.q (re_var (pv 0))) (RE.q (re_int)) rfl) (re_call DD.d_great_row c (by decide) (by rfl) (ra_cons (re_var (pv 0)) ra_nil)) (re_ix (RE.q (re_call DD.d_rows_found c (by decide) (by rfl) (ra_cons (re_var (pv 0)) (ra_cons (re_var (pv 1)) (ra_cons (re_int) ra_nil))))) (RE.q (re_int)) (fun _ _ => rfl)))))))
/-! ### _law_begun -/
abbrev s__law_begun : Stmt := top 27
theorem sc__law_begun : FnScope ["script", "great", "cell"] ["script"] (defScope s__law_begun) := ⟨rfl, rfl, rfl, by decide +kernel, rfl, by decide +kernel, by decide +kernel⟩
theorem df__law_begun {P : Program} {w : World} {K : PySem.W.Frag} {mg : Str → Option Value} {a : Addr} {fd : FuncData} (T : Txt P w K mg) (F : Fun K "_law_begun" "_law_begun" s__law_begun a fd) (hm : mg "_law_begun" = some (.ref a)) (hb : Binds K fd ["script"] []) :
    BegT P w K mg "_law_begun" 1 := ⟨a, fd, "script", hm, F.kp, hb, fun B => begun_fn (k := 0) (m1 := b1__law_begun) (m2 := b2__law_begun) F sc__law_begun rfl (ig := 1) rfl (by decide)
    (fun cdv A outer s H E c => have nd := (sc__law_begun).nd; (rs_ownLc 1 c.calm nd rfl rfl (sw_true rfl rfl rfl rfl) (ri_cF (re_var (pv 0))) (own := [("cell", 2)]) (blkOk_by (by show blkC ["script", "great", "cell"] (defScope s__law_begun) _ [("cell", 2)] = true; decide +kernel)) (fun _ _ _ _ _ => (rc_name 2 nd rfl (Or.inl rfl) (by decide))) (fun _ _ _ _ _ => (rts_one (rt_cmp c_ge (RE.q (re_abs (by rfl) T.b_abs (RE.q (re_var (pv 2))))) (RE.q (re_pow (RE.q (re_int)) (RE.q (re_int)))) rfl))) (fun _ _ _ _ _ => (re_sub (RE.q (re_abs (by rfl) T.b_abs (RE.q (re_var (pv 2))))) (RE.q (re_pow (RE.q (re_int)) (RE.q (re_int))))))))
    (fun cdv A outer s H E c => have nd := (sc__law_begun).nd; (rn_lc c.calm nd (ri_cF (re_var (pv 0))) (own := [("cell", 2)]) (blkOk_by (by show blkC ["script", "great", "cell"] (defScope s__law_begun) _ [("cell", 2)] = true; decide +kernel)) (fun _ _ _ _ _ => (rc_name 2 nd rfl (Or.inl rfl) (by decide))) (fun _ _ _ _ _ => rts_nil) (fun _ _ _ _ _ => (re_abs (by rfl) T.b_abs (RE.q (re_var (pv 2)))))))
    (fun cdv A outer s H E => pv 1) begun_v1 begun_v2⟩
/-! ### _law_blended -/
abbrev s__law_blended : Stmt := top 28
theorem sc__law_blended : FnScope ["state", "turn", "found", "prime", "blend", "cell"] ["state"] (defScope s__law_blended) := ⟨rfl, rfl, rfl, by decide +kernel, rfl, by decide +kernel, by decide +kernel⟩
theorem df__law_blended {P : Program} {w : World} {K : PySem.W.Frag} {mg : Str → Option Value} {base : Heap} {a : Addr} {fd : FuncData} (T : Txt P w K mg) (F : Fun K "_law_blended" "_law_blended" s__law_blended a fd) (hm : mg "_law_blended" = some (.ref a)) (hb : Binds K fd ["state"] []) :
    Df P w K mg base 1 "_law_blended" ["state"] f__law_blended s__law_blended := df_of F hm sc__law_blended hb fun cdv A outer s H E c hp tk =>
  have nd := (sc__law_blended).nd
  (rss_cons (rs_par2 1 2 c.calm nd rfl rfl (by decide) rfl rfl (rv_e (re_add (RE.q (re_st .turn c.u1 (pv 0) rfl)) (RE.q (re_int)))) (rv_e (re_int)) rfl)
  (rss_cons (rs_putSt .turn c.u1 (pv 0) rfl (re_var (pv 1)))
  (rss_cons (rs_for (vs := [3]) hp c.calm (ri_f (re_lst (ra_cons (re_int) (ra_cons (re_int) (ra_cons (re_int) ra_nil))))) (rc_name 3 nd rfl (Or.inl rfl) (by decide)) (rss_cons (rs_set 4 nd rfl (Or.inl rfl) (re_add (RE.q (re_mul (RE.q (re_int)) (RE.q (re_var (pv 1))))) (RE.q (re_div (RE.q (re_var (pv 3))) (RE.q (re_int))))))
  (rss_cons (rs_forC (vs := [5]) 2000 hp c.calm c.u1 (pv 0) (rc_name 5 nd rfl (Or.inl rfl) (by decide)) (rss_one (rs_set 4 nd rfl (Or.inl rfl) (re_mod (RE.q (re_int1 (by rfl) T.b_int (RE.q (re_add (RE.q (re_add (RE.q (re_mul (RE.q (re_var (pv 4))) (RE.q (re_int)))) (RE.q (re_var (pv 5))))) (RE.q (re_var (pv 1))))))) (RE.q (re_var (pv 3)))))))
  (rss_one (rs_set 2 nd rfl (Or.inl rfl) (re_add (RE.q (re_mul (RE.q (re_var (pv 2))) (RE.q (re_int)))) (RE.q (re_mod (RE.q (re_int1 (by rfl) T.b_int (RE.q (re_pow (RE.q (re_var (pv 4))) (RE.q (re_int)))))) (RE.q (re_var (pv 3)))))))))))
  (rss_one (rs_ret (re_var (pv 2)))))))
/-! ### _law_draw -/
abbrev s__law_draw : Stmt := top 29
theorem sc__law_draw : FnScope ["state", "room", "found"] ["state", "room"] (defScope s__law_draw) := ⟨rfl, rfl, rfl, by decide +kernel, rfl, by decide +kernel, by decide +kernel⟩
structure D__law_draw (P : Program) (w : World) (K : PySem.W.Frag) (mg : Str → Option Value) (base : Heap) : Prop where
  d__law_blended : Df P w K mg base 1 "_law_blended" ["state"] f__law_blended (top 28)
theorem df__law_draw {P : Program} {w : World} {K : PySem.W.Frag} {mg : Str → Option Value} {base : Heap} {a : Addr} {fd : FuncData} (T : Txt P w K mg) (DD : D__law_draw P w K mg base) (F : Fun K "_law_draw" "_law_draw" s__law_draw a fd) (hm : mg "_law_draw" = some (.ref a)) (hb : Binds K fd ["state", "room"] []) :
    Df P w K mg base 2 "_law_draw" ["state", "room"] f__law_draw s__law_draw := df_of F hm sc__law_draw hb fun cdv A outer s H E c hp tk =>
  have nd := (sc__law_draw).nd
  (rss_cons (rs_if (rt_cmp (c_eq c.u64) (RE.q (re_st .rest c.u1 (pv 0) rfl)) (RE.q (re_int)) rfl) (rss_one (rs_putSt .rest c.u1 (pv 0) rfl (re_if (rt_greatNe c.u64 (pv 0)) (re_greatPop c.u1 (pv 0)) (re_call DD.d__law_blended c (by decide) (by rfl) (ra_cons (re_var (pv 0)) ra_nil))))) rss_nil)
  (rss_cons (rs_set 2 nd rfl (Or.inl rfl) (re_mod (RE.q (re_int1 (by rfl) T.b_int (RE.q (re_st .rest c.u1 (pv 0) rfl)))) (RE.q (re_var (pv 1)))))
  (rss_cons (rs_putSt .rest c.u1 (pv 0) rfl (re_div (RE.q (re_st .rest c.u1 (pv 0) rfl)) (RE.q (re_var (pv 1)))))
  (rss_one (rs_ret (re_var (pv 2)))))))
/-! ### _law_pick -/
abbrev s__law_pick : Stmt := top 30
theorem sc__law_pick : FnScope ["state", "some"] ["state", "some"] (defScope s__law_pick) := ⟨rfl, rfl, rfl, by decide +kernel, rfl, by decide +kernel, by decide +kernel⟩
structure D__law_pick (P : Program) (w : World) (K : PySem.W.Frag) (mg : Str → Option Value) (base : Heap) : Prop where
  d__law_draw : Df P w K mg base 2 "_law_draw" ["state", "room"] f__law_draw (top 29)
theorem df__law_pick {P : Program} {w : World} {K : PySem.W.Frag} {mg : Str → Option Value} {base : Heap} {a : Addr} {fd : FuncData} (T : Txt P w K mg) (DD : D__law_pick P w K mg base) (F : Fun K "_law_pick" "_law_pick" s__law_pick a fd) (hm : mg "_law_pick" = some (.ref a)) (hb : Binds K fd ["state", "some"] []) :
    Df P w K mg base 3 "_law_pick" ["state", "some"] f__law_pick s__law_pick := df_of F hm sc__law_pick hb fun cdv A outer s H E c hp tk =>
  have nd := (sc__law_pick).nd
  (rss_one (rs_ret (re_ix (RE.q (re_var (pv 1))) (RE.q (re_call DD.d__law_draw c (by decide) (by rfl) (ra_cons (re_var (pv 0)) (ra_cons (re_len (by rfl) T.b_len (RE.q (re_var (pv 1)))) ra_nil)))) (fun _ _ => rfl))))
/-! ### _law_is_truth -/
abbrev s__law_is_truth : Stmt := top 32
def b__law_is_truth : MS := (sE (mIf (bnd (mVar 1) asB) (bn2 (mVar 0) (ret (.bl true)) fun x y => lft (mB (dIs x y))) (bn2 (mVar 0) (ret (.bl false)) fun x y => lft (mB (dIs x y)))) sRt)
def f__law_is_truth : List D → DS → Res D := runFn 2 b__law_is_truth
theorem sc__law_is_truth : FnScope ["found", "due"] ["found", "due"] (defScope s__law_is_truth) := ⟨rfl, rfl, rfl, by decide +kernel, rfl, by decide +kernel, by decide +kernel⟩
theorem df__law_is_truth {P : Program} {w : World} {K : PySem.W.Frag} {mg : Str → Option Value} {base : Heap} {a : Addr} {fd : FuncData} (T : Txt P w K mg) (F : Fun K "_law_is_truth" "_law_is_truth" s__law_is_truth a fd) (hm : mg "_law_is_truth" = some (.ref a)) (hb : Binds K fd ["found", "due"] []) :
    Df P w K mg base 1 "_law_is_truth" ["found", "due"] f__law_is_truth s__law_is_truth := df_of F hm sc__law_is_truth hb fun cdv A outer s H E c hp tk =>
  have nd := (sc__law_is_truth).nd
  (rss_one (rs_ret (re_if (rt_val (re_var (pv 1))) (re_cmp c_is (RE.q (re_var (pv 0))) (RE.q (re_bl)) rfl) (re_cmp c_is (RE.q (re_var (pv 0))) (RE.q (re_bl)) rfl))))
/-! ### _law_same -/
abbrev s__law_same : Stmt := top 33
def b__law_same : MS := (sSeq (sE (bnd (mCons (mTup (mCons (mVar 0) (mCons (mVar 1) (ret [])))) (ret [])) fun ds => if ds.length ≤ 1000 then ret ds else bad) (sOwn 2))
  (sSeq (sWhile 1000000000 (bn2 (mOwn 2) (mLst (ret [])) fun x y => lft (dNe x y)) (sSeq (sPop 2 (gTup' 2 (gCons' (sSet 3) (gCons' (sSet 4) gNil'))))
  (sIf (mOrT (bn2 (mVar 4) (ret .non) fun x y => lft (dIs x y)) (bnd (mB1 (mVar 4) (dIsT "bool")) asB)) (sIf (mIf (bn2 (mVar 4) (ret .non) fun x y => lft (dIs x y)) (bn2 (mVar 3) (ret .non) fun x y => lft (dIsNot x y)) (mNotT (bnd (mCall 2 (mCons (mVar 3) (mCons (mVar 4) (ret []))) f__law_is_truth) asB))) (sE (ret (.bl false)) sRt) sNil) (sIf (bnd (mB1 (mVar 4) (dIsT2 "int" "str")) asB) (sIf (mOrT (bnd (mB1 (mVar 3) (dIsT "bool")) asB) (mOrT (bn2 (mB1 (mVar 3) (dIsT "int")) (mB1 (mVar 4) (dIsT "int")) fun x y => lft (dNe x y)) (bn2 (mVar 3) (mVar 4) fun x y => lft (dNe x y)))) (sE (ret (.bl false)) sRt) sNil) (sIf (bnd (mB1 (mVar 4) (dIsT "dict")) asB) (sSeq (sIf (mOrT (mNotT (bnd (mB1 (mVar 3) (dIsT "dict")) asB)) (bn2 (mB1 (mVar 3) dList) (mB1 (mVar 4) dList) fun x y => lft (dNe x y))) (sE (ret (.bl false)) sRt) sNil)
  (sSeq sBad
  (sExt 2 (bnd (mLc (bnd (mVar 4) asL) [6] (gpName 6) (ret true) (mTup (mCons (bn2 (mVar 3) (mVar 6) fun x y => lft (dIx x y)) (mCons (bn2 (mVar 4) (mVar 6) fun x y => lft (dIx x y)) (ret []))))) fun ds => ret (.lst ds))))) (sSeq (sE (mLst (mCons (mAnd (mB1 (mVar 3) (dIsT "tuple")) (mB1 (mVar 4) (dIsT "tuple"))) (mCons (mAnd (mB1 (mVar 3) (dIsT "list")) (mB1 (mVar 4) (dIsT "list"))) (ret [])))) (sSet 5))
  (sSeq (sIf (mOrT (bn2 (ret (.bl true)) (mVar 5) fun x y => lft (dNotIn x y)) (bn2 (mB1 (mVar 3) dLen) (mB1 (mVar 4) dLen) fun x y => lft (dNe x y))) (sE (ret (.bl false)) sRt) sNil)
  (sExt 2 (bnd (mLc (mZip (mVar 3) (mVar 4)) [7, 8] (gpTup 2 (gpCons (gpName 7) (gpCons (gpName 8) gpNil))) (ret true) (mTup (mCons (mVar 7) (mCons (mVar 8) (ret []))))) fun ds => ret (.lst ds))))))))))
  (sE (ret (.bl true)) sRt)))
def f__law_same : List D → DS → Res D := runFn 9 b__law_same
theorem sc__law_same : FnScope ["found", "due", "unseen_here", "one", "other", "alike", "key", "left", "right"] ["found", "due"] (defScope s__law_same) := ⟨rfl, rfl, rfl, by decide +kernel, rfl, by decide +kernel, by decide +kernel⟩
structure D__law_same (P : Program) (w : World) (K : PySem.W.Frag) (mg : Str → Option Value) (base : Heap) : Prop where
  d__law_is_truth : Df P w K mg base 1 "_law_is_truth" ["found", "due"] f__law_is_truth (top 32)
theorem df__law_same {P : Program} {w : World} {K : PySem.W.Frag} {mg : Str → Option Value} {base : Heap} {a : Addr} {fd : FuncData} (T : Txt P w K mg) (DD : D__law_same P w K mg base) (F : Fun K "_law_same" "_law_same" s__law_same a fd) (hm : mg "_law_same" = some (.ref a)) (hb : Binds K fd ["found", "due"] []) :
    Df P w K mg base 2 "_law_same" ["found", "due"] f__law_same s__law_same := df_of F hm sc__law_same hb fun cdv A outer s H E c hp tk =>
  have nd := (sc__law_same).nd
  (rss_cons (rs_own 2 nd rfl (Or.inl rfl) (rn_lst (ra_cons (re_tup (ra_cons (re_var (pv 0)) (ra_cons (re_var (pv 1)) ra_nil))) ra_nil)))
  (rss_cons (rs_while 1000000000 hp (rt_cmp (c_ne c.u64) (rq_var (pv 2)) (RE.q (re_lst ra_nil)) rfl) (rss_cons (rs_pop (rg_tup c.calm (rgs_cons (rg_name 3 nd rfl (Or.inr rfl)) (rgs_cons (rg_name 4 nd rfl (Or.inr rfl)) rgs_nil))) (pe_bm0 PySem.F.plainAttrs_list PySem.F.slot_list_pop PySem.F.type_list_pop mt_pop (pv 2)))
  (rss_one (rs_if (rt_w (rw_or (rt_cmp c_is (RE.q (re_var (pv 4))) (RE.q (re_non)) rfl) (rw_or1 (rt_val (re_isT (T := "bool") (by rfl) T.b_isinstance (by rfl) T.b_bool (by decide +kernel) (RE.q (re_var (pv 4)))))))) (rss_one (rs_if (rt_if (rt_cmp c_is (RE.q (re_var (pv 4))) (RE.q (re_non)) rfl) (rt_cmp c_isNot (RE.q (re_var (pv 3))) (RE.q (re_non)) rfl) (rt_not (rt_val (re_call DD.d__law_is_truth c (by decide) (by rfl) (ra_cons (re_var (pv 3)) (ra_cons (re_var (pv 4)) ra_nil)))))) (rss_one (rs_ret (re_bl))) rss_nil)) (rss_one (rs_if (rt_val (re_isT2 (T := "int") (U := "str") (by rfl) T.b_isinstance (by rfl) T.b_int (by decide +kernel) (by rfl) T.b_str (by decide +kernel) (RE.q (re_var (pv 4))))) (rss_one (rs_if (rt_w (rw_or (rt_val (re_isT (T := "bool") (by rfl) T.b_isinstance (by rfl) T.b_bool (by decide +kernel) (RE.q (re_var (pv 3))))) (rw_or (rt_cmp (c_ne c.u64) (RE.q (re_isT (T := "int") (by rfl) T.b_isinstance (by rfl) T.b_int (by decide +kernel) (RE.q (re_var (pv 3))))) (RE.q (re_isT (T := "int") (by rfl) T.b_isinstance (by rfl) T.b_int (by decide +kernel) (RE.q (re_var (pv 4))))) rfl) (rw_or1 (rt_cmp (c_ne c.u64) (RE.q (re_var (pv 3))) (RE.q (re_var (pv 4))) rfl))))) (rss_one (rs_ret (re_bl))) rss_nil)) (rss_one (rs_if (rt_val (re_isT (T := "dict") (by rfl) T.b_isinstance (by rfl) T.b_dict (by decide +kernel) (RE.q (re_var (pv 4))))) (rss_cons (rs_if (rt_w (rw_or (rt_not (rt_val (re_isT (T := "dict") (by rfl) T.b_isinstance (by rfl) T.b_dict (by decide +kernel) (RE.q (re_var (pv 3)))))) (rw_or1 (rt_cmp (c_ne c.u64) (RE.q (re_list (by rfl) T.b_list (RE.q (re_var (pv 3))))) (RE.q (re_list (by rfl) T.b_list (RE.q (re_var (pv 4))))) rfl)))) (rss_one (rs_ret (re_bl))) rss_nil)
  (rss_cons rs_bad
  (rss_one (rs_ext (pe_bm PySem.F.plainAttrs_list PySem.F.slot_list_extend PySem.F.type_list_extend mt_extend (pv 2) (pa_cons (rn_re (rn_lc c.calm nd (ri_c (RE.q (re_var (pv 4)))) (own := [("key", 6)]) (blkOk_by (by show blkC ["found", "due", "unseen_here", "one", "other", "alike", "key", "left", "right"] (defScope s__law_same) _ [("key", 6)] = true; decide +kernel)) (fun _ _ _ _ _ => (rc_name 6 nd rfl (Or.inl rfl) (by decide))) (fun _ _ _ _ _ => rts_nil) (fun _ _ _ _ _ => (re_tup (ra_cons (re_ix (RE.q (re_var (pv 3))) (RE.q (re_var (pv 6))) (fun _ _ => rfl)) (ra_cons (re_ix (RE.q (re_var (pv 4))) (RE.q (re_var (pv 6))) (fun _ _ => rfl)) ra_nil)))))) pa_nil)))))) (rss_cons (rs_set 5 nd rfl (Or.inl rfl) (re_lst (ra_cons (re_and (re_isT (T := "tuple") (by rfl) T.b_isinstance (by rfl) T.b_tuple (by decide +kernel) (RE.q (re_var (pv 3)))) (re_one (re_isT (T := "tuple") (by rfl) T.b_isinstance (by rfl) T.b_tuple (by decide +kernel) (RE.q (re_var (pv 4)))))) (ra_cons (re_and (re_isT (T := "list") (by rfl) T.b_isinstance (by rfl) T.b_list (by decide +kernel) (RE.q (re_var (pv 3)))) (re_one (re_isT (T := "list") (by rfl) T.b_isinstance (by rfl) T.b_list (by decide +kernel) (RE.q (re_var (pv 4)))))) ra_nil))))
  (rss_cons (rs_if (rt_w (rw_or (rt_cmp (c_notIn c.u) (RE.q (re_bl)) (RE.q (re_var (pv 5))) rfl) (rw_or1 (rt_cmp (c_ne c.u64) (RE.q (re_len (by rfl) T.b_len (RE.q (re_var (pv 3))))) (RE.q (re_len (by rfl) T.b_len (RE.q (re_var (pv 4))))) rfl)))) (rss_one (rs_ret (re_bl))) rss_nil)
  (rss_one (rs_ext (pe_bm PySem.F.plainAttrs_list PySem.F.slot_list_extend PySem.F.type_list_extend mt_extend (pv 2) (pa_cons (rn_re (rn_lc c.calm nd (rif_c (ri_zip (by rfl) T.b_zip (re_var (pv 3)) (re_var (pv 4)))) (own := [("left", 7), ("right", 8)]) (blkOk_by (by show blkC ["found", "due", "unseen_here", "one", "other", "alike", "key", "left", "right"] (defScope s__law_same) _ [("left", 7), ("right", 8)] = true; decide +kernel)) (fun _ _ _ _ _ => (rc_tup c.blk.calm (rcs_cons (rc_name 7 nd rfl (Or.inl rfl) (by decide)) (rcs_cons (rc_name 8 nd rfl (Or.inl rfl) (by decide)) rcs_nil)))) (fun _ _ _ _ _ => rts_nil) (fun _ _ _ _ _ => (re_tup (ra_cons (re_var (pv 7)) (ra_cons (re_var (pv 8)) ra_nil)))))) pa_nil))))))))))))))
  (rss_one (rs_ret (re_bl)))))
/-! ### _law_odd -/
abbrev s__law_odd : Stmt := top 34
def b__law_odd : MS := (sSeq (sE (mLst (mCons (ret .non) (mCons (ret (.bl true)) (mCons (ret (.int 5)) (mCons (ret (.str "")) (mCons (ret (.str "threes")) (mCons (mTup (ret [])) (mCons (mLst (ret [])) (mCons (ret (.dic [])) (mCons (mTup (mCons (ret (.str "threes")) (ret []))) (mCons (mTup (mCons (ret (.str "threes")) (mCons (ret (.int 3)) (ret [])))) (mCons (mTup (mCons (ret (.str "threes")) (mCons (ret (.int 3)) (mCons (mLst (mCons (mTup (mCons (ret (.int 0)) (mCons (ret (.int 1)) (mCons (ret (.int 2)) (ret []))))) (ret []))) (ret []))))) (mCons (mLst (mCons (ret (.str "threes")) (mCons (ret (.int 3)) (mCons (mTup (ret [])) (ret []))))) (mCons (mTup (mCons (ret (.str "threes")) (mCons (mB1 (ret (.int 1)) dNeg) (mCons (mTup (ret [])) (ret []))))) (mCons (mTup (mCons (ret (.str "threes")) (mCons (ret (.int 40)) (mCons (mTup (ret [])) (ret []))))) (ret [])))))))))))))))) (sSet 1))
  (sSeq (sE (bn2 (mVar 1) (mLst (mCons (mTup (mCons (ret (.str "threes")) (mCons (ret (.bl true)) (mCons (mTup (ret [])) (ret []))))) (mCons (mTup (mCons (ret (.str "threes")) (mCons (ret (.int 3)) (mCons (mTup (mCons (mTup (mCons (ret (.int 0)) (mCons (ret (.int 2)) (mCons (ret (.int 1)) (ret []))))) (ret []))) (ret []))))) (mCons (mTup (mCons (ret (.str "threes")) (mCons (ret (.int 3)) (mCons (mTup (mCons (mTup (mCons (ret (.int 0)) (mCons (ret (.int 1)) (ret [])))) (ret []))) (ret []))))) (mCons (mTup (mCons (ret (.str "threes")) (mCons (ret (.int 3)) (mCons (mTup (mCons (mTup (mCons (ret (.int 0)) (mCons (ret (.int 1)) (mCons (ret (.int 3)) (ret []))))) (ret []))) (ret []))))) (mCons (mTup (mCons (ret (.str "threes")) (mCons (ret (.int 4)) (mCons (mTup (mCons (mTup (mCons (ret (.int 0)) (mCons (ret (.int 1)) (mCons (ret (.int 2)) (ret []))))) (mCons (mTup (mCons (ret (.int 0)) (mCons (ret (.int 1)) (mCons (ret (.int 3)) (ret []))))) (ret [])))) (ret []))))) (ret []))))))) fun x y => lft (dAdd x y)) (sSet 1))
  (sE (mCall 2 (mCons (mVar 0) (mCons (bn2 (mVar 1) (mLst (mCons (mTup (mCons (ret (.str "threes")) (mCons (ret (.int 5)) (mCons (mTup (mCons (mTup (mCons (ret (.int 0)) (mCons (ret (.int 3)) (mCons (ret (.int 4)) (ret []))))) (mCons (mTup (mCons (ret (.int 0)) (mCons (ret (.int 1)) (mCons (ret (.int 2)) (ret []))))) (ret [])))) (ret []))))) (mCons (mTup (mCons (ret (.str "threes")) (mCons (ret (.str "3")) (mCons (mTup (ret [])) (ret []))))) (mCons (mTup (mCons (ret (.str "pairs")) (mCons (ret (.int 3)) (mCons (mTup (ret [])) (ret []))))) (mCons (mTup (mCons (ret (.str "threes")) (mCons (ret (.int 3)) (mCons (mTup (mCons (mTup (mCons (ret (.int 0)) (mCons (ret (.bl true)) (mCons (ret (.int 2)) (ret []))))) (ret []))) (ret []))))) (mCons (mTup (mCons (ret (.str "threes")) (mCons (ret (.int 3)) (mCons (mTup (mCons (mTup (mCons (ret (.int 0)) (mCons (ret (.int 1)) (mCons (ret (.int 2)) (ret []))))) (mCons (mTup (mCons (ret (.int 0)) (mCons (ret (.int 1)) (mCons (ret (.int 2)) (ret []))))) (ret [])))) (ret []))))) (ret []))))))) fun x y => lft (dAdd x y)) (ret []))) f__law_pick) sRt)))
def f__law_odd : List D → DS → Res D := runFn 2 b__law_odd
theorem sc__law_odd : FnScope ["draws", "some"] ["draws"] (defScope s__law_odd) := ⟨rfl, rfl, rfl, by decide +kernel, rfl, by decide +kernel, by decide +kernel⟩
structure D__law_odd (P : Program) (w : World) (K : PySem.W.Frag) (mg : Str → Option Value) (base : Heap) : Prop where
  d__law_pick : Df P w K mg base 3 "_law_pick" ["state", "some"] f__law_pick (top 30)
theorem df__law_odd {P : Program} {w : World} {K : PySem.W.Frag} {mg : Str → Option Value} {base : Heap} {a : Addr} {fd : FuncData} (T : Txt P w K mg) (DD : D__law_odd P w K mg base) (F : Fun K "_law_odd" "_law_odd" s__law_odd a fd) (hm : mg "_law_odd" = some (.ref a)) (hb : Binds K fd ["draws"] []) :
    Df P w K mg base 4 "_law_odd" ["draws"] f__law_odd s__law_odd := df_of F hm sc__law_odd hb fun cdv A outer s H E c hp tk =>
  have nd := (sc__law_odd).nd
  (rss_cons (rs_set 1 nd rfl (Or.inl rfl) (re_lst (ra_cons (re_non) (ra_cons (re_bl) (ra_cons (re_int) (ra_cons (re_str) (ra_cons (re_str) (ra_cons (re_tup ra_nil) (ra_cons (re_lst ra_nil) (ra_cons (re_dic0) (ra_cons (re_tup (ra_cons (re_str) ra_nil)) (ra_cons (re_tup (ra_cons (re_str) (ra_cons (re_int) ra_nil))) (ra_cons (re_tup (ra_cons (re_str) (ra_cons (re_int) (ra_cons (re_lst (ra_cons (re_tup (ra_cons (re_int) (ra_cons (re_int) (ra_cons (re_int) ra_nil)))) ra_nil)) ra_nil)))) (ra_cons (re_lst (ra_cons (re_str) (ra_cons (re_int) (ra_cons (re_tup ra_nil) ra_nil)))) (ra_cons (re_tup (ra_cons (re_str) (ra_cons (re_neg (RE.q (re_int))) (ra_cons (re_tup ra_nil) ra_nil)))) (ra_cons (re_tup (ra_cons (re_str) (ra_cons (re_int) (ra_cons (re_tup ra_nil) ra_nil)))) ra_nil))))))))))))))))
  (rss_cons (rs_set 1 nd rfl (Or.inl rfl) (re_add (RE.q (re_var (pv 1))) (RE.q (re_lst (ra_cons (re_tup (ra_cons (re_str) (ra_cons (re_bl) (ra_cons (re_tup ra_nil) ra_nil)))) (ra_cons (re_tup (ra_cons (re_str) (ra_cons (re_int) (ra_cons (re_tup (ra_cons (re_tup (ra_cons (re_int) (ra_cons (re_int) (ra_cons (re_int) ra_nil)))) ra_nil)) ra_nil)))) (ra_cons (re_tup (ra_cons (re_str) (ra_cons (re_int) (ra_cons (re_tup (ra_cons (re_tup (ra_cons (re_int) (ra_cons (re_int) ra_nil))) ra_nil)) ra_nil)))) (ra_cons (re_tup (ra_cons (re_str) (ra_cons (re_int) (ra_cons (re_tup (ra_cons (re_tup (ra_cons (re_int) (ra_cons (re_int) (ra_cons (re_int) ra_nil)))) ra_nil)) ra_nil)))) (ra_cons (re_tup (ra_cons (re_str) (ra_cons (re_int) (ra_cons (re_tup (ra_cons (re_tup (ra_cons (re_int) (ra_cons (re_int) (ra_cons (re_int) ra_nil)))) (ra_cons (re_tup (ra_cons (re_int) (ra_cons (re_int) (ra_cons (re_int) ra_nil)))) ra_nil))) ra_nil)))) ra_nil)))))))))
  (rss_one (rs_ret (re_call DD.d__law_pick c (by decide) (by rfl) (ra_cons (re_var (pv 0)) (ra_cons (re_add (RE.q (re_var (pv 1))) (RE.q (re_lst (ra_cons (re_tup (ra_cons (re_str) (ra_cons (re_int) (ra_cons (re_tup (ra_cons (re_tup (ra_cons (re_int) (ra_cons (re_int) (ra_cons (re_int) ra_nil)))) (ra_cons (re_tup (ra_cons (re_int) (ra_cons (re_int) (ra_cons (re_int) ra_nil)))) ra_nil))) ra_nil)))) (ra_cons (re_tup (ra_cons (re_str) (ra_cons (re_str) (ra_cons (re_tup ra_nil) ra_nil)))) (ra_cons (re_tup (ra_cons (re_str) (ra_cons (re_int) (ra_cons (re_tup ra_nil) ra_nil)))) (ra_cons (re_tup (ra_cons (re_str) (ra_cons (re_int) (ra_cons (re_tup (ra_cons (re_tup (ra_cons (re_int) (ra_cons (re_bl) (ra_cons (re_int) ra_nil)))) ra_nil)) ra_nil)))) (ra_cons (re_tup (ra_cons (re_str) (ra_cons (re_int) (ra_cons (re_tup (ra_cons (re_tup (ra_cons (re_int) (ra_cons (re_int) (ra_cons (re_int) ra_nil)))) (ra_cons (re_tup (ra_cons (re_int) (ra_cons (re_int) (ra_cons (re_int) ra_nil)))) ra_nil))) ra_nil)))) ra_nil)))))))) ra_nil)))))))
/-! ### _law_is_number -/
abbrev s__law_is_number : Stmt := top 35
def b__law_is_number : MS := (sE (mAnd (mB1 (mVar 0) (dIsT "int")) (mAnd (mNot (mB1 (mVar 0) (dIsT "bool"))) (bnd (mChain (mVar 1) (mVar 0) (mVar 2) dLe dLe) bB))) sRt)
def f__law_is_number : List D → DS → Res D := runFn 3 b__law_is_number
theorem sc__law_is_number : FnScope ["value", "low", "high"] ["value", "low", "high"] (defScope s__law_is_number) := ⟨rfl, rfl, rfl, by decide +kernel, rfl, by decide +kernel, by decide +kernel⟩
theorem df__law_is_number {P : Program} {w : World} {K : PySem.W.Frag} {mg : Str → Option Value} {base : Heap} {a : Addr} {fd : FuncData} (T : Txt P w K mg) (F : Fun K "_law_is_number" "_law_is_number" s__law_is_number a fd) (hm : mg "_law_is_number" = some (.ref a)) (hb : Binds K fd ["value", "low", "high"] []) :
    Df P w K mg base 1 "_law_is_number" ["value", "low", "high"] f__law_is_number s__law_is_number := df_of F hm sc__law_is_number hb fun cdv A outer s H E c hp tk =>
  have nd := (sc__law_is_number).nd
  (rss_one (rs_ret (re_and (re_isT (T := "int") (by rfl) T.b_isinstance (by rfl) T.b_int (by decide +kernel) (RE.q (re_var (pv 0)))) (re_and (re_not (re_isT (T := "bool") (by rfl) T.b_isinstance (by rfl) T.b_bool (by decide +kernel) (RE.q (re_var (pv 0))))) (re_one (re_chain c_le c_le (RE.q (re_var (pv 1))) (RE.q (re_var (pv 0))) (RE.q (re_var (pv 2)))))))))
/-! ### _law_bent_list -/
abbrev s__law_bent_list : Stmt := top 36
def b__law_bent_list : MS := (sSeq (mTwo (mVal (mCall 2 (mCons (mVar 0) (mCons (ret (.int 6)) (ret []))) f__law_draw)) (mOwnL (bnd (mVar 1) asL)) 3 4)
  (sSeq (sIf (bn2 (mVar 3) (ret (.int 0)) fun x y => lft (dEq x y)) (sE (mOwn 4) sRt) sNil)
  (sSeq (sIf (mOrT (bn2 (mVar 3) (ret (.int 1)) fun x y => lft (dEq x y)) (bn2 (mOwn 4) (mLst (ret [])) fun x y => lft (dEq x y))) (sE (mB1 (bn2 (mOwn 4) (mLst (mCons (mCall 2 (mCons (mVar 0) (mCons (mVar 2) (ret []))) f__law_pick) (ret []))) fun x y => lft (dAdd x y)) dTuple) sRt) sNil)
  (sSeq (mTwo (mVal (mCall 2 (mCons (mVar 0) (mCons (mB1 (mOwn 4) dLen) (ret []))) f__law_draw)) (mVal (mCall 2 (mCons (mVar 0) (mCons (mB1 (mOwn 4) dLen) (ret []))) f__law_draw)) 5 6)
  (sSeq (sIf (bn2 (mVar 3) (ret (.int 2)) fun x y => lft (dEq x y)) (sE (mB1 (bn2 (mSl (mOwn 4) (ret none) (mPart (mVar 5))) (mSl (mOwn 4) (mPart (bn2 (mVar 5) (ret (.int 1)) fun x y => lft (dAdd x y))) (ret none)) fun x y => lft (dAdd x y)) dTuple) sRt) sNil)
  (sSeq (sIf (bn2 (mVar 3) (ret (.int 3)) fun x y => lft (dEq x y)) (sSeq (sE (mTup (mCons (bn2 (mOwn 4) (mVar 6) fun x y => lft (dIx x y)) (mCons (bn2 (mOwn 4) (mVar 5) fun x y => lft (dIx x y)) (ret [])))) fun d => sSeq (sTg ((gTup' 2 (gCons' (gIt 4 (mVar 5)) (gCons' (gIt 4 (mVar 6)) gNil'))) d)) sNil)
  (sE (mB1 (mOwn 4) dTuple) sRt)) sNil)
  (sSeq (sE (mCall 2 (mCons (mVar 0) (mCons (mVar 2) (ret []))) f__law_pick) fun d => sSeq (sTg ((gIt 4 (mVar 5)) d)) sNil)
  (sE (mB1 (mOwn 4) dTuple) sRt))))))))
def f__law_bent_list : List D → DS → Res D := runFn 7 b__law_bent_list
theorem sc__law_bent_list : FnScope ["draws", "value", "odd", "way", "found", "here", "there"] ["draws", "value", "odd"] (defScope s__law_bent_list) := ⟨rfl, rfl, rfl, by decide +kernel, rfl, by decide +kernel, by decide +kernel⟩
structure D__law_bent_list (P : Program) (w : World) (K : PySem.W.Frag) (mg : Str → Option Value) (base : Heap) : Prop where
  d__law_draw : Df P w K mg base 2 "_law_draw" ["state", "room"] f__law_draw (top 29)
  d__law_pick : Df P w K mg base 3 "_law_pick" ["state", "some"] f__law_pick (top 30)
theorem df__law_bent_list {P : Program} {w : World} {K : PySem.W.Frag} {mg : Str → Option Value} {base : Heap} {a : Addr} {fd : FuncData} (T : Txt P w K mg) (DD : D__law_bent_list P w K mg base) (F : Fun K "_law_bent_list" "_law_bent_list" s__law_bent_list a fd) (hm : mg "_law_bent_list" = some (.ref a)) (hb : Binds K fd ["draws", "value", "odd"] []) :
    Df P w K mg base 4 "_law_bent_list" ["draws", "value", "odd"] f__law_bent_list s__law_bent_list := df_of F hm sc__law_bent_list hb fun cdv A outer s H E c hp tk =>
  have nd := (sc__law_bent_list).nd
  (rss_cons (rs_par2 3 4 c.calm nd rfl rfl (by decide) rfl rfl (rv_e (re_call DD.d__law_draw c (by decide) (by rfl) (ra_cons (re_var (pv 0)) (ra_cons (re_int) ra_nil)))) (rv_n (rn_list (by rfl) T.b_list (RE.q (re_var (pv 1))))) rfl)
  (rss_cons (rs_if (rt_cmp (c_eq c.u64) (RE.q (re_var (pv 3))) (RE.q (re_int)) rfl) (rss_one (rs_retQ (rq_var (pv 4)))) rss_nil)
  (rss_cons (rs_if (rt_w (rw_or (rt_cmp (c_eq c.u64) (RE.q (re_var (pv 3))) (RE.q (re_int)) rfl) (rw_or1 (rt_cmp (c_eq c.u64) (rq_var (pv 4)) (RE.q (re_lst ra_nil)) rfl)))) (rss_one (rs_ret (re_tuple (by rfl) T.b_tuple (RE.q (re_add (rq_var (pv 4)) (RE.q (re_lst (ra_cons (re_call DD.d__law_pick c (by decide) (by rfl) (ra_cons (re_var (pv 0)) (ra_cons (re_var (pv 2)) ra_nil))) ra_nil)))))))) rss_nil)
  (rss_cons (rs_par2 5 6 c.calm nd rfl rfl (by decide) rfl rfl (rv_e (re_call DD.d__law_draw c (by decide) (by rfl) (ra_cons (re_var (pv 0)) (ra_cons (re_len (by rfl) T.b_len (rq_var (pv 4))) ra_nil)))) (rv_e (re_call DD.d__law_draw c (by decide) (by rfl) (ra_cons (re_var (pv 0)) (ra_cons (re_len (by rfl) T.b_len (rq_var (pv 4))) ra_nil)))) rfl)
  (rss_cons (rs_if (rt_cmp (c_eq c.u64) (RE.q (re_var (pv 3))) (RE.q (re_int)) rfl) (rss_one (rs_ret (re_tuple (by rfl) T.b_tuple (RE.q (re_add (RE.q (re_sl (rq_var (pv 4)) ro_none (ro_some (re_var (pv 5))))) (RE.q (re_sl (rq_var (pv 4)) (ro_some (re_add (RE.q (re_var (pv 5))) (RE.q (re_int)))) ro_none))))))) rss_nil)
  (rss_cons (rs_if (rt_cmp (c_eq c.u64) (RE.q (re_var (pv 3))) (RE.q (re_int)) rfl) (rss_cons (rs_asg (re_tup (ra_cons (re_ix (rq_var (pv 4)) (RE.q (re_var (pv 6))) (fun _ _ => rfl)) (ra_cons (re_ix (rq_var (pv 4)) (RE.q (re_var (pv 5))) (fun _ _ => rfl)) ra_nil))) (rg_tup c.calm (rgs_cons (rg_it (pv 4) (re_var (pv 5))) (rgs_cons (rg_it (pv 4) (re_var (pv 6))) rgs_nil))))
  (rss_one (rs_ret (re_tuple (by rfl) T.b_tuple (rq_var (pv 4)))))) rss_nil)
  (rss_cons (rs_asg (re_call DD.d__law_pick c (by decide) (by rfl) (ra_cons (re_var (pv 0)) (ra_cons (re_var (pv 2)) ra_nil))) (rg_it (pv 4) (re_var (pv 5))))
  (rss_one (rs_ret (re_tuple (by rfl) T.b_tuple (rq_var (pv 4))))))))))))
/-! ### _law_is_gap -/
abbrev s__law_is_gap : Stmt := top 37
def b__law_is_gap : MS := (sSeq (sE (mIf (bn2 (mVar 1) (ret (.str "whole")) fun x y => lft (dEq x y)) (bn2 (ret (.int 2)) (mVar 0) fun x y => lft (dMul x y)) (bn2 (bn2 (ret (.int 2)) (mVar 0) fun x y => lft (dMul x y)) (ret (.int 1)) fun x y => lft (dAdd x y))) (sSet 3))
  (sSeq (sIf (mOrT (mNotT (bnd (mB1 (mVar 2) (dIsT "tuple")) asB)) (mOrT (bn2 (mB1 (mVar 2) dLen) (mVar 3) fun x y => lft (dNe x y)) (bn2 (bnd (mLc (bnd (mVar 2) asL) [7] (gpName 7) (mNotT (bnd (mCall 3 (mCons (mVar 7) (mCons (ret (.int 0)) (mCons (mVar 0) (ret [])))) f__law_is_number) asB)) (ret (.int 1))) fun ds => ret (.lst ds)) (mLst (ret [])) fun x y => lft (dNe x y)))) (sE (ret (.bl false)) sRt) sNil)
  (sSeq (mTwo (ret (.ownd [])) (ret (.ownd [])) 4 5)
  (sSeq (sFor (mEnum (mVar 2)) (gpTup 2 (gpCons (gpName 6) (gpCons (gpName 7) gpNil))) (sSeq (sIf (mDin false 4 (mVar 7)) (sDput 4 (mVar 6) (mVar 7)) sNil)
  (sDput 5 (mVar 6) (mVar 7))))
  (sSeq (sIf (mOrT (mAndT (bn2 (mVar 1) (ret (.str "hooked")) fun x y => lft (dEq x y)) (mOrT (mDin false 4 (ret (.int 0))) (mOrT (bn2 (mDget 4 (ret (.int 0))) (bn2 (mVar 3) (ret (.int 2)) fun x y => lft (dSub x y)) fun x y => lft (dNe x y)) (bn2 (mDget 5 (ret (.int 0))) (bn2 (mVar 3) (ret (.int 2)) fun x y => lft (dSub x y)) fun x y => lft (dNe x y))))) (mAndT (bn2 (mVar 1) (ret (.str "whole")) fun x y => lft (dEq x y)) (mDin true 4 (ret (.int 0))))) (sE (ret (.bl false)) sRt) sNil)
  (sE (mAnd (bn2 (mDlen 4) (bn2 (bn2 (mVar 0) (mVar 3) fun x y => lft (dAdd x y)) (bn2 (ret (.int 2)) (mVar 0) fun x y => lft (dMul x y)) fun x y => lft (dSub x y)) fun x y => lft (mB (dEq x y))) (bn2 (bnd (mLock 4 (mLc (mKeys 4) [7] (gpName 7) (bn2 (bn2 (mDget 5 (mVar 7)) (mDget 4 (mVar 7)) fun x y => lft (dSub x y)) (mVar 7) fun x y => lft (dNe x y)) (ret (.int 1)))) fun ds => ret (.lst ds)) (mLst (ret [])) fun x y => lft (mB (dEq x y)))) sRt))))))
def f__law_is_gap : List D → DS → Res D := runFn 8 b__law_is_gap
theorem sc__law_is_gap : FnScope ["n", "kind", "value", "size", "firsts", "lasts", "place", "entry"] ["n", "kind", "value"] (defScope s__law_is_gap) := ⟨rfl, rfl, rfl, by decide +kernel, rfl, by decide +kernel, by decide +kernel⟩
structure D__law_is_gap (P : Program) (w : World) (K : PySem.W.Frag) (mg : Str → Option Value) (base : Heap) : Prop where
  d__law_is_number : Df P w K mg base 1 "_law_is_number" ["value", "low", "high"] f__law_is_number (top 35)
theorem df__law_is_gap {P : Program} {w : World} {K : PySem.W.Frag} {mg : Str → Option Value} {base : Heap} {a : Addr} {fd : FuncData} (T : Txt P w K mg) (DD : D__law_is_gap P w K mg base) (F : Fun K "_law_is_gap" "_law_is_gap" s__law_is_gap a fd) (hm : mg "_law_is_gap" = some (.ref a)) (hb : Binds K fd ["n", "kind", "value"] []) :
    Df P w K mg base 2 "_law_is_gap" ["n", "kind", "value"] f__law_is_gap s__law_is_gap := df_of F hm sc__law_is_gap hb fun cdv A outer s H E c hp tk =>
  have nd := (sc__law_is_gap).nd
  (rss_cons (rs_set 3 nd rfl (Or.inl rfl) (re_if (rt_cmp (c_eq c.u64) (RE.q (re_var (pv 1))) (RE.q (re_str)) rfl) (re_mul (RE.q (re_int)) (RE.q (re_var (pv 0)))) (re_add (RE.q (re_mul (RE.q (re_int)) (RE.q (re_var (pv 0))))) (RE.q (re_int)))))
  (rss_cons (rs_if (rt_w (rw_or (rt_not (rt_val (re_isT (T := "tuple") (by rfl) T.b_isinstance (by rfl) T.b_tuple (by decide +kernel) (RE.q (re_var (pv 2)))))) (rw_or (rt_cmp (c_ne c.u64) (RE.q (re_len (by rfl) T.b_len (RE.q (re_var (pv 2))))) (RE.q (re_var (pv 3))) rfl) (rw_or1 (rt_cmp (c_ne c.u64) (RE.q (rn_re (rn_lc c.calm nd (ri_c (RE.q (re_var (pv 2)))) (own := [("entry", 7)]) (blkOk_by (by show blkC ["n", "kind", "value", "size", "firsts", "lasts", "place", "entry"] (defScope s__law_is_gap) _ [("entry", 7)] = true; decide +kernel)) (fun _ _ _ _ _ => (rc_name 7 nd rfl (Or.inl rfl) (by decide))) (fun _ _ _ _ _ => (rts_one (rt_not (rt_val (re_call DD.d__law_is_number c.blk (by decide) (by rfl) (ra_cons (re_var (pv 7)) (ra_cons (re_int) (ra_cons (re_var (pv 0)) ra_nil)))))))) (fun _ _ _ _ _ => (re_int))))) (RE.q (re_lst ra_nil)) rfl))))) (rss_one (rs_ret (re_bl))) rss_nil)
  (rss_cons (rs_par2T 4 5 c.calm nd rfl rfl (by decide) (Or.inr rfl) (Or.inr rfl) rv_d0 rv_d0)
  (rss_cons (rs_for (vs := [6, 7]) hp c.calm (ri_enum (by rfl) T.b_enumerate (re_var (pv 2))) (rc_tup c.calm (rcs_cons (rc_name 6 nd rfl (Or.inl rfl) (by decide)) (rcs_cons (rc_name 7 nd rfl (Or.inl rfl) (by decide)) rcs_nil))) (rss_cons (rs_if (rt_dnotin c.u1 (pv 4) (re_var (pv 7))) (rss_one (rs_dput c.u1 (pv 4) (re_var (pv 6)) (re_var (pv 7)))) rss_nil)
  (rss_one (rs_dput c.u1 (pv 5) (re_var (pv 6)) (re_var (pv 7))))))
  (rss_cons (rs_if (rt_w (rw_or (rt_w (rw_and (rt_cmp (c_eq c.u64) (RE.q (re_var (pv 1))) (RE.q (re_str)) rfl) (rw_and1 (rt_w (rw_or (rt_dnotin c.u1 (pv 4) (re_int)) (rw_or (rt_cmp (c_ne c.u64) (RE.q (re_dget c.u1 (pv 4) (re_int) (fun _ _ => rfl))) (RE.q (re_sub (RE.q (re_var (pv 3))) (RE.q (re_int)))) rfl) (rw_or1 (rt_cmp (c_ne c.u64) (RE.q (re_dget c.u1 (pv 5) (re_int) (fun _ _ => rfl))) (RE.q (re_sub (RE.q (re_var (pv 3))) (RE.q (re_int)))) rfl)))))))) (rw_or1 (rt_w (rw_and (rt_cmp (c_eq c.u64) (RE.q (re_var (pv 1))) (RE.q (re_str)) rfl) (rw_and1 (rt_din c.u1 (pv 4) (re_int)))))))) (rss_one (rs_ret (re_bl))) rss_nil)
  (rss_one (rs_ret (re_and (re_cmp (c_eq c.u64) (RE.q (re_dlen (by rfl) T.b_len (pv 4))) (RE.q (re_sub (RE.q (re_add (RE.q (re_var (pv 0))) (RE.q (re_var (pv 3))))) (RE.q (re_mul (RE.q (re_int)) (RE.q (re_var (pv 0))))))) rfl) (re_one (re_cmp (c_eq c.u64) (RE.q (rn_re (rn_lock (rn_lc c.calm nd (ri_keys (pv 4)) (own := [("entry", 7)]) (blkOk_by (by show blkC ["n", "kind", "value", "size", "firsts", "lasts", "place", "entry"] (defScope s__law_is_gap) _ [("entry", 7)] = true; decide +kernel)) (fun _ _ _ _ _ => (rc_name 7 nd rfl (Or.inl rfl) (by decide))) (fun _ _ _ _ _ => (rts_one (rt_cmp (c_ne c.blk.u64) (RE.q (re_sub (RE.q (re_dget c.blk.u1 (pv 5) (re_var (pv 7)) (fun _ _ => rfl))) (RE.q (re_dget c.blk.u1 (pv 4) (re_var (pv 7)) (fun _ _ => rfl))))) (RE.q (re_var (pv 7))) rfl))) (fun _ _ _ _ _ => (re_int)))))) (RE.q (re_lst ra_nil)) rfl))))))))))
/-! ### _law_all_rows -/
abbrev s__law_all_rows : Stmt := top 38
def b__law_all_rows : MS := (sSeq (sE (mIf (bn2 (mVar 1) (ret (.str "whole")) fun x y => lft (dEq x y)) (bn2 (mLst (mCons (ret .non) (ret []))) (bn2 (ret (.int 2)) (mVar 0) fun x y => lft (dMul x y)) fun x y => lft (dMul x y)) (bn2 (bn2 (mLst (mCons (ret .non) (ret []))) (bn2 (bn2 (ret (.int 2)) (mVar 0) fun x y => lft (dMul x y)) (ret (.int 1)) fun x y => lft (dSub x y)) fun x y => lft (dMul x y)) (mLst (mCons (ret (.int 0)) (mCons (ret .non) (ret [])))) fun x y => lft (dAdd x y))) (sSet 2))
  (sSeq (sE (mLst (mCons (mB1 (mVar 2) dTuple) (ret []))) (sSet 3))
  (sSeq (sFor (mRngD (mVar 0) (ret (.int 0))) (gpName 4) (sSeq (sE (bnd (ret []) fun ds => if ds.length ≤ 1000 then ret ds else bad) (sOwn 5))
  (sSeq (sFor (bnd (mVar 3) asL) (gpName 6) (sFor (mRng1 (bn2 (mB1 (mVar 6) dLen) (mVar 4) fun x y => lft (dSub x y))) (gpName 7) (sIf (mAndT (bn2 (bn2 (mVar 6) (mVar 7) fun x y => lft (dIx x y)) (ret .non) fun x y => lft (dIs x y)) (bn2 (bn2 (mVar 6) (bn2 (mVar 7) (mVar 4) fun x y => lft (dAdd x y)) fun x y => lft (dIx x y)) (ret .non) fun x y => lft (dIs x y))) (sSeq (sE (bnd (mVar 6) asL) (sOwn 8))
  (sSeq (sE (mTup (mCons (mVar 4) (mCons (mVar 4) (ret [])))) fun d => sSeq (sTg ((gTup' 2 (gCons' (gIt 8 (mVar 7)) (gCons' (gIt 8 (bn2 (mVar 7) (mVar 4) fun x y => lft (dAdd x y))) gNil'))) d)) sNil)
  (sApp 5 (mB1 (mOwn 8) dTuple)))) sNil)))
  (sMove 3 5))))
  (sE (mB1 (mVar 3) dSorted) sRt))))
def f__law_all_rows : List D → DS → Res D := runFn 9 b__law_all_rows
theorem sc__law_all_rows : FnScope ["n", "kind", "begun", "rows", "number", "later", "row", "place", "own"] ["n", "kind"] (defScope s__law_all_rows) := ⟨rfl, rfl, rfl, by decide +kernel, rfl, by decide +kernel, by decide +kernel⟩
theorem df__law_all_rows {P : Program} {w : World} {K : PySem.W.Frag} {mg : Str → Option Value} {base : Heap} {a : Addr} {fd : FuncData} (T : Txt P w K mg) (F : Fun K "_law_all_rows" "_law_all_rows" s__law_all_rows a fd) (hm : mg "_law_all_rows" = some (.ref a)) (hb : Binds K fd ["n", "kind"] []) :
    Df P w K mg base 1 "_law_all_rows" ["n", "kind"] f__law_all_rows s__law_all_rows := df_of F hm sc__law_all_rows hb fun cdv A outer s H E c hp tk =>
  have nd := (sc__law_all_rows).nd
  (rss_cons (rs_set 2 nd rfl (Or.inl rfl) (re_if (rt_cmp (c_eq c.u64) (RE.q (re_var (pv 1))) (RE.q (re_str)) rfl) (re_mul (RE.q (re_lst (ra_cons (re_non) ra_nil))) (RE.q (re_mul (RE.q (re_int)) (RE.q (re_var (pv 0)))))) (re_add (RE.q (re_mul (RE.q (re_lst (ra_cons (re_non) ra_nil))) (RE.q (re_sub (RE.q (re_mul (RE.q (re_int)) (RE.q (re_var (pv 0))))) (RE.q (re_int)))))) (RE.q (re_lst (ra_cons (re_int) (ra_cons (re_non) ra_nil)))))))
  (rss_cons (rs_set 3 nd rfl (Or.inl rfl) (re_lst (ra_cons (re_tuple (by rfl) T.b_tuple (RE.q (re_var (pv 2)))) ra_nil)))
  (rss_cons (rs_for (vs := [4]) hp c.calm (ri_rngD (by rfl) T.b_range (RE.q (re_var (pv 0))) (RE.q (re_int))) (rc_name 4 nd rfl (Or.inl rfl) (by decide)) (rss_cons (rs_own 5 nd rfl (Or.inl rfl) (rn_lst ra_nil))
  (rss_cons (rs_for (vs := [6]) hp c.calm (ri_f (re_var (pv 3))) (rc_name 6 nd rfl (Or.inl rfl) (by decide)) (rss_one (rs_for (vs := [7]) hp c.calm (ri_rng1 (by rfl) T.b_range (RE.q (re_sub (RE.q (re_len (by rfl) T.b_len (RE.q (re_var (pv 6))))) (RE.q (re_var (pv 4)))))) (rc_name 7 nd rfl (Or.inl rfl) (by decide)) (rss_one (rs_if (rt_w (rw_and (rt_cmp c_is (RE.q (re_ix (RE.q (re_var (pv 6))) (RE.q (re_var (pv 7))) (fun _ _ => rfl))) (RE.q (re_non)) rfl) (rw_and1 (rt_cmp c_is (RE.q (re_ix (RE.q (re_var (pv 6))) (RE.q (re_add (RE.q (re_var (pv 7))) (RE.q (re_var (pv 4))))) (fun _ _ => rfl))) (RE.q (re_non)) rfl)))) (rss_cons (rs_own 8 nd rfl (Or.inl rfl) (rn_list (by rfl) T.b_list (RE.q (re_var (pv 6)))))
  (rss_cons (rs_asg (re_tup (ra_cons (re_var (pv 4)) (ra_cons (re_var (pv 4)) ra_nil))) (rg_tup c.calm (rgs_cons (rg_it (pv 8) (re_var (pv 7))) (rgs_cons (rg_it (pv 8) (re_add (RE.q (re_var (pv 7))) (RE.q (re_var (pv 4))))) rgs_nil))))
  (rss_one (rs_app (pe_bm PySem.F.plainAttrs_list PySem.F.slot_list_append PySem.F.type_list_append mt_append (pv 5) (pa_cons (re_tuple (by rfl) T.b_tuple (rq_var (pv 8))) pa_nil)))))) rss_nil)))))
  (rss_one (rs_move 3 5 nd rfl (Or.inl rfl) (pv 5))))))
  (rss_one (rs_ret (re_sorted c (by rfl) T.b_sorted (RE.q (re_var (pv 3)))))))))
/-! ### _law_listed -/
abbrev s__law_listed : Stmt := top 39
def b__law_listed : MS := (sSeq (sIf (mAndT (bn2 (mVar 0) (ret (.int 8)) fun x y => lft (dEq x y)) (bn2 (mVar 1) (ret (.str "whole")) fun x y => lft (dEq x y))) (sSeq (sE (mCauL XC (mCall 2 (mCons (mVar 0) (mCons (mVar 1) (ret []))) f_gap_rows)) (sSet 2))
  (sE (mAnd (mB1 (mVar 2) (dIsX XC "TooMany")) (mCall 2 (mCons (mB1 (mVar 2) (dXf "TooMany" "most")) (mCons (ret (.int 200)) (ret []))) f__law_same)) sRt)) sNil)
  (sSeq (sE (mCallK [1, 0] (mCons (mVar 1) (mCons (mVar 0) (ret []))) f_gap_rows) (sSet 3))
  (sSeq (sIf (mAndT (bn2 (mVar 0) (ret (.int 7)) fun x y => lft (dLt x y)) (mNotT (bnd (mCall 2 (mCons (mVar 3) (mCons (mB1 (mCall 2 (mCons (mVar 0) (mCons (mVar 1) (ret []))) f__law_all_rows) dTuple) (ret []))) f__law_same) asB))) (sE (ret (.bl false)) sRt) sNil)
  (sSeq (sIf (mOrT (mNotT (bnd (mB1 (mVar 3) (dIsT "tuple")) asB)) (mOrT (bn2 (bnd (mLc (bnd (mVar 3) asL) [4] (gpName 4) (mNotT (bnd (mCall 3 (mCons (mVar 0) (mCons (mVar 1) (mCons (mVar 4) (ret [])))) f__law_is_gap) asB)) (ret (.int 1))) fun ds => ret (.lst ds)) (mLst (ret [])) fun x y => lft (dNe x y)) (bn2 (mB1 (mVar 3) dList) (mB1 (mVar 3) dSortSet) fun x y => lft (dNe x y)))) (sE (ret (.bl false)) sRt) sNil)
  (sSeq (sIf (mAndT (bn2 (mVar 0) (ret (.int 6)) fun x y => lft (dGt x y)) (bn2 (mB1 (mVar 3) dLen) (mIf (mAndT (bn2 (mVar 0) (ret (.int 7)) fun x y => lft (dEq x y)) (bn2 (mVar 1) (ret (.str "hooked")) fun x y => lft (dEq x y))) (ret (.int 124)) (ret (.int 0))) fun x y => lft (dNe x y))) (sE (ret (.bl false)) sRt) sNil)
  (sE (mOr (bn2 (mVar 1) (ret (.str "hooked")) fun x y => lft (mB (dEq x y))) (bn2 (bnd (mLc (bnd (mVar 3) asL) [4] (gpName 4) (bn2 (mB1 (mVar 4) dRevTuple) (mVar 3) fun x y => lft (dNotIn x y)) (ret (.int 1))) fun ds => ret (.lst ds)) (mLst (ret [])) fun x y => lft (mB (dEq x y)))) sRt))))))
def f__law_listed : List D → DS → Res D := runFn 5 b__law_listed
theorem sc__law_listed : FnScope ["n", "kind", "error", "found", "row"] ["n", "kind"] (defScope s__law_listed) := ⟨rfl, rfl, rfl, by decide +kernel, rfl, by decide +kernel, by decide +kernel⟩
structure D__law_listed (P : Program) (w : World) (K : PySem.W.Frag) (mg : Str → Option Value) (base : Heap) : Prop where
  d__law_same : Df P w K mg base 2 "_law_same" ["found", "due"] f__law_same (top 33)
  d_gap_rows : Df P w K mg base 5 "gap_rows" ["n", "kind"] f_gap_rows (top 18)
  d__law_all_rows : Df P w K mg base 1 "_law_all_rows" ["n", "kind"] f__law_all_rows (top 38)
  d__law_is_gap : Df P w K mg base 2 "_law_is_gap" ["n", "kind", "value"] f__law_is_gap (top 37)
structure L__law_listed (P : Program) (w : World) (K : PySem.W.Frag) (mg : Str → Option Value) (base : Heap) : Prop where
  d_gap_rows : Df P w K mg base 5 "gap_rows" ["n", "kind"] f_gap_rows (top 18)
theorem df__law_listed {P : Program} {w : World} {K : PySem.W.Frag} {mg : Str → Option Value} {base : Heap} {a : Addr} {fd : FuncData} (T : Txt P w K mg) (DD : D__law_listed P w K mg base) (DA : ∀ base, L__law_listed P w K mg base) {cc : Addr} (hcc : fd.code = .ref cc) (TF : TabF base mg cc "_law_listed") (F : Fun K "_law_listed" "_law_listed" s__law_listed a fd) (hm : mg "_law_listed" = some (.ref a)) (hb : Binds K fd ["n", "kind"] []) :
    Df P w K mg base 9 "_law_listed" ["n", "kind"] f__law_listed s__law_listed := df_ofC F hcc hm sc__law_listed hb fun A outer s H E c hp tk => by
  have nd := (sc__law_listed).nd
  obtain ⟨TP, MK⟩ := lamMk_cx (CXg := L2.CX P w) (P := P) (w := w) (K := K) (N := ["n", "kind", "error", "found", "row"]) (scope := defScope s__law_listed) (f := a) (A := A) (outer := outer) (s := s) (H := H) (E := E) TF
  exact (rss_cons (rs_if (rt_w (rw_and (rt_cmp (c_eq c.u64) (RE.q (re_var (pv 0))) (RE.q (re_int)) rfl) (rw_and1 (rt_cmp (c_eq c.u64) (RE.q (re_var (pv 1))) (RE.q (re_str)) rfl)))) (rss_cons (rs_set 2 nd rfl (Or.inl rfl) (re_caughtL T.cau c (by rfl) MK (by rfl) (scM_cx (by decide +kernel)) (fun _ _ _ _ _ => by rfl) (fun B A2 out2 t2 G2 E2 f2 c2 cl2 cB => have DB := DA B; (re_call DB.d_gap_rows cB (by decide) (by rfl) (ra_cons (re_var (pv 0)) (ra_cons (re_var (pv 1)) ra_nil))))))
  (rss_one (rs_ret (re_and (re_isX T.xt (by decide) (by rfl) T.b_isinstance (by rfl) (re_var (pv 2))) (re_one (re_call DD.d__law_same c (by decide) (by rfl) (ra_cons (re_xf T.xt (by decide) T.n_TooMany_most (re_var (pv 2))) (ra_cons (re_int) ra_nil)))))))) rss_nil)
  (rss_cons (rs_set 3 nd rfl (Or.inr rfl) (re_callK DD.d_gap_rows c (by decide) (by rfl) [1, 0] (by rfl) (ks := ["kind", "n"]) (by rfl) (by intro _ _ _ _ _ _ ws hl; exact match ws, hl with | [_, _], _ => rfl) (rk_cons (re_var (pv 1)) (rk_cons (re_var (pv 0)) rk_nil))))
  (rss_cons (rs_if (rt_w (rw_and (rt_cmp (c_lt c.u0) (RE.q (re_var (pv 0))) (RE.q (re_int)) rfl) (rw_and1 (rt_not (rt_val (re_call DD.d__law_same c (by decide) (by rfl) (ra_cons (re_var (pv 3)) (ra_cons (re_tuple (by rfl) T.b_tuple (RE.q (re_call DD.d__law_all_rows c (by decide) (by rfl) (ra_cons (re_var (pv 0)) (ra_cons (re_var (pv 1)) ra_nil))))) ra_nil)))))))) (rss_one (rs_ret (re_bl))) rss_nil)
  (rss_cons (rs_if (rt_w (rw_or (rt_not (rt_val (re_isT (T := "tuple") (by rfl) T.b_isinstance (by rfl) T.b_tuple (by decide +kernel) (RE.q (re_var (pv 3)))))) (rw_or (rt_cmp (c_ne c.u64) (RE.q (rn_re (rn_lc c.calm nd (ri_c (RE.q (re_var (pv 3)))) (own := [("row", 4)]) (blkOk_by (by show blkC ["n", "kind", "error", "found", "row"] (defScope s__law_listed) _ [("row", 4)] = true; decide +kernel)) (fun _ _ _ _ _ => (rc_name 4 nd rfl (Or.inl rfl) (by decide))) (fun _ _ _ _ _ => (rts_one (rt_not (rt_val (re_call DD.d__law_is_gap c.blk (by decide) (by rfl) (ra_cons (re_var (pv 0)) (ra_cons (re_var (pv 1)) (ra_cons (re_var (pv 4)) ra_nil)))))))) (fun _ _ _ _ _ => (re_int))))) (RE.q (re_lst ra_nil)) rfl) (rw_or1 (rt_cmp (c_ne c.u64) (RE.q (re_list (by rfl) T.b_list (RE.q (re_var (pv 3))))) (RE.q (re_sortSet c (by rfl) T.b_sorted (by rfl) T.b_set (RE.q (re_var (pv 3))))) rfl))))) (rss_one (rs_ret (re_bl))) rss_nil)
  (rss_cons (rs_if (rt_w (rw_and (rt_cmp c_gt (RE.q (re_var (pv 0))) (RE.q (re_int)) rfl) (rw_and1 (rt_cmp (c_ne c.u64) (RE.q (re_len (by rfl) T.b_len (RE.q (re_var (pv 3))))) (RE.q (re_if (rt_w (rw_and (rt_cmp (c_eq c.u64) (RE.q (re_var (pv 0))) (RE.q (re_int)) rfl) (rw_and1 (rt_cmp (c_eq c.u64) (RE.q (re_var (pv 1))) (RE.q (re_str)) rfl)))) (re_int) (re_int))) rfl)))) (rss_one (rs_ret (re_bl))) rss_nil)
  (rss_one (rs_ret (re_or (re_cmp (c_eq c.u64) (RE.q (re_var (pv 1))) (RE.q (re_str)) rfl) (re_one (re_cmp (c_eq c.u64) (RE.q (rn_re (rn_lc c.calm nd (ri_c (RE.q (re_var (pv 3)))) (own := [("row", 4)]) (blkOk_by (by show blkC ["n", "kind", "error", "found", "row"] (defScope s__law_listed) _ [("row", 4)] = true; decide +kernel)) (fun _ _ _ _ _ => (rc_name 4 nd rfl (Or.inl rfl) (by decide))) (fun _ _ _ _ _ => (rts_one (rt_cmp (c_notIn c.blk.u) (RE.q (re_rev_tuple c.blk.calm (by rfl) T.b_tuple (by rfl) T.b_reversed (re_var (pv 4)))) (RE.q (re_var (pv 3))) rfl))) (fun _ _ _ _ _ => (re_int))))) (RE.q (re_lst ra_nil)) rfl))))))))))
/-! ### _law_told -/
abbrev s__law_told : Stmt := top 40
def b__law_told : MS := (sSeq (sE (mCall 2 (mCons (mVar 1) (mCons (mVar 2) (ret []))) f_gap_row) (sSet 3))
  (sSeq (sIf (mOrT (bn2 (bn2 (mVar 3) (ret .non) fun x y => lft (mB (dIsNot x y))) (bn2 (bn2 (bn2 (mB1 (mVar 1) dInt) (ret (.int 4)) fun x y => lft (dMod x y)) (mLst (mCons (ret (.int 0)) (mCons (ret (.int 1)) (ret [])))) fun x y => lft (mB (dIn x y))) (bn2 (mVar 2) (ret (.str "whole")) fun x y => lft (mB (dEq x y))) fun x y => lft (mB (dEq x y))) fun x y => lft (dNe x y)) (mAndT (bn2 (mVar 3) (ret .non) fun x y => lft (dIsNot x y)) (mNotT (bnd (mCall 3 (mCons (mVar 1) (mCons (mVar 2) (mCons (mVar 3) (ret [])))) f__law_is_gap) asB)))) (sE (ret (.bl false)) sRt) sNil)
  (sSeq (sE (mIf (bn2 (mVar 3) (ret .non) fun x y => lft (dIsNot x y)) (mVar 3) (mB1 (bn2 (mLst (mCons (ret (.int 1)) (mCons (ret (.int 1)) (ret [])))) (bn2 (mLst (mCons (ret (.int 0)) (ret []))) (bn2 (bn2 (ret (.int 2)) (mVar 1) fun x y => lft (dMul x y)) (mIf (bn2 (mVar 2) (ret (.str "whole")) fun x y => lft (dEq x y)) (ret (.int 2)) (ret (.int 1))) fun x y => lft (dSub x y)) fun x y => lft (dMul x y)) fun x y => lft (dAdd x y)) dTuple)) (sSet 4))
  (sSeq (sIf (mNotT (bnd (mCall 2 (mCons (mCall 3 (mCons (mVar 1) (mCons (mVar 2) (mCons (mVar 4) (ret [])))) f_is_gap_row) (mCons (mCall 3 (mCons (mVar 1) (mCons (mVar 2) (mCons (mVar 4) (ret [])))) f__law_is_gap) (ret []))) f__law_is_truth) asB)) (sE (ret (.bl false)) sRt) sNil)
  (sSeq (sFor (mRng1 (ret (.int 5))) (gpName 5) (sSeq (sE (mCall 3 (mCons (mVar 0) (mCons (mVar 4) (mCons (mLst (mCons (ret .non) (mCons (ret (.bl true)) (mCons (ret (.bl false)) (mCons (mB1 (ret (.int 1)) dNeg) (mCons (ret (.int 0)) (mCons (ret (.int 1)) (mCons (ret (.int 2)) (mCons (ret (.int 3)) (mCons (mVar 1) (mCons (bn2 (mVar 1) (ret (.int 1)) fun x y => lft (dAdd x y)) (mCons (ret (.str "1")) (mCons (mTup (mCons (ret (.int 1)) (ret []))) (ret [])))))))))))))) (ret [])))) f__law_bent_list) (sSet 6))
  (sSeq (sIf (mAndT (bn2 (mVar 5) (ret (.int 0)) fun x y => lft (dEq x y)) (bn2 (mVar 3) (ret .non) fun x y => lft (dIsNot x y))) (sE (mB1 (mVar 3) dRevTuple) (sSet 6)) sNil)
  (sIf (mNotT (bnd (mCall 2 (mCons (mCallK [2, 1, 0] (mCons (mVar 6) (mCons (mVar 2) (mCons (mVar 1) (ret [])))) f_is_gap_row) (mCons (mCall 3 (mCons (mVar 1) (mCons (mVar 2) (mCons (mVar 6) (ret [])))) f__law_is_gap) (ret []))) f__law_is_truth) asB)) (sE (ret (.bl false)) sRt) sNil))))
  (sE (ret (.bl true)) sRt))))))
def f__law_told : List D → DS → Res D := runFn 7 b__law_told
theorem sc__law_told : FnScope ["draws", "n", "kind", "row", "value", "lap", "bent"] ["draws", "n", "kind"] (defScope s__law_told) := ⟨rfl, rfl, rfl, by decide +kernel, rfl, by decide +kernel, by decide +kernel⟩
structure D__law_told (P : Program) (w : World) (K : PySem.W.Frag) (mg : Str → Option Value) (base : Heap) : Prop where
  d_gap_row : Df P w K mg base 5 "gap_row" ["n", "kind"] f_gap_row (top 25)
  d__law_is_gap : Df P w K mg base 2 "_law_is_gap" ["n", "kind", "value"] f__law_is_gap (top 37)
  d__law_is_truth : Df P w K mg base 1 "_law_is_truth" ["found", "due"] f__law_is_truth (top 32)
  d_is_gap_row : Df P w K mg base 5 "is_gap_row" ["n", "kind", "value"] f_is_gap_row (top 14)
  d__law_bent_list : Df P w K mg base 4 "_law_bent_list" ["draws", "value", "odd"] f__law_bent_list (top 36)
theorem df__law_told {P : Program} {w : World} {K : PySem.W.Frag} {mg : Str → Option Value} {base : Heap} {a : Addr} {fd : FuncData} (T : Txt P w K mg) (DD : D__law_told P w K mg base) (F : Fun K "_law_told" "_law_told" s__law_told a fd) (hm : mg "_law_told" = some (.ref a)) (hb : Binds K fd ["draws", "n", "kind"] []) :
    Df P w K mg base 6 "_law_told" ["draws", "n", "kind"] f__law_told s__law_told := df_of F hm sc__law_told hb fun cdv A outer s H E c hp tk =>
  have nd := (sc__law_told).nd
  (rss_cons (rs_set 3 nd rfl (Or.inl rfl) (re_call DD.d_gap_row c (by decide) (by rfl) (ra_cons (re_var (pv 1)) (ra_cons (re_var (pv 2)) ra_nil))))
  (rss_cons (rs_if (rt_w (rw_or (rt_cmp (c_ne c.u64) (RE.q (re_cmp c_isNot (RE.q (re_var (pv 3))) (RE.q (re_non)) rfl)) (RE.q (re_cmp (c_eq c.u64) (RE.q (re_cmp (c_in c.u) (RE.q (re_mod (RE.q (re_int1 (by rfl) T.b_int (RE.q (re_var (pv 1))))) (RE.q (re_int)))) (RE.q (re_lst (ra_cons (re_int) (ra_cons (re_int) ra_nil)))) rfl)) (RE.q (re_cmp (c_eq c.u64) (RE.q (re_var (pv 2))) (RE.q (re_str)) rfl)) rfl)) rfl) (rw_or1 (rt_w (rw_and (rt_cmp c_isNot (RE.q (re_var (pv 3))) (RE.q (re_non)) rfl) (rw_and1 (rt_not (rt_val (re_call DD.d__law_is_gap c (by decide) (by rfl) (ra_cons (re_var (pv 1)) (ra_cons (re_var (pv 2)) (ra_cons (re_var (pv 3)) ra_nil)))))))))))) (rss_one (rs_ret (re_bl))) rss_nil)
  (rss_cons (rs_set 4 nd rfl (Or.inl rfl) (re_if (rt_cmp c_isNot (RE.q (re_var (pv 3))) (RE.q (re_non)) rfl) (re_var (pv 3)) (re_tuple (by rfl) T.b_tuple (RE.q (re_add (RE.q (re_lst (ra_cons (re_int) (ra_cons (re_int) ra_nil)))) (RE.q (re_mul (RE.q (re_lst (ra_cons (re_int) ra_nil))) (RE.q (re_sub (RE.q (re_mul (RE.q (re_int)) (RE.q (re_var (pv 1))))) (RE.q (re_if (rt_cmp (c_eq c.u64) (RE.q (re_var (pv 2))) (RE.q (re_str)) rfl) (re_int) (re_int))))))))))))
  (rss_cons (rs_if (rt_not (rt_val (re_call DD.d__law_is_truth c (by decide) (by rfl) (ra_cons (re_call DD.d_is_gap_row c (by decide) (by rfl) (ra_cons (re_var (pv 1)) (ra_cons (re_var (pv 2)) (ra_cons (re_var (pv 4)) ra_nil)))) (ra_cons (re_call DD.d__law_is_gap c (by decide) (by rfl) (ra_cons (re_var (pv 1)) (ra_cons (re_var (pv 2)) (ra_cons (re_var (pv 4)) ra_nil)))) ra_nil))))) (rss_one (rs_ret (re_bl))) rss_nil)
  (rss_cons (rs_for (vs := [5]) hp c.calm (ri_rng1 (by rfl) T.b_range (RE.q (re_int))) (rc_name 5 nd rfl (Or.inl rfl) (by decide)) (rss_cons (rs_set 6 nd rfl (Or.inl rfl) (re_call DD.d__law_bent_list c (by decide) (by rfl) (ra_cons (re_var (pv 0)) (ra_cons (re_var (pv 4)) (ra_cons (re_lst (ra_cons (re_non) (ra_cons (re_bl) (ra_cons (re_bl) (ra_cons (re_neg (RE.q (re_int))) (ra_cons (re_int) (ra_cons (re_int) (ra_cons (re_int) (ra_cons (re_int) (ra_cons (re_var (pv 1)) (ra_cons (re_add (RE.q (re_var (pv 1))) (RE.q (re_int))) (ra_cons (re_str) (ra_cons (re_tup (ra_cons (re_int) ra_nil)) ra_nil))))))))))))) ra_nil)))))
  (rss_cons (rs_if (rt_w (rw_and (rt_cmp (c_eq c.u64) (RE.q (re_var (pv 5))) (RE.q (re_int)) rfl) (rw_and1 (rt_cmp c_isNot (RE.q (re_var (pv 3))) (RE.q (re_non)) rfl)))) (rss_one (rs_set 6 nd rfl (Or.inl rfl) (re_rev_tuple c.calm (by rfl) T.b_tuple (by rfl) T.b_reversed (re_var (pv 3))))) rss_nil)
  (rss_one (rs_if (rt_not (rt_val (re_call DD.d__law_is_truth c (by decide) (by rfl) (ra_cons (re_callK DD.d_is_gap_row c (by decide) (by rfl) [2, 1, 0] (by rfl) (ks := ["value", "kind", "n"]) (by rfl) (by intro _ _ _ _ _ _ ws hl; exact match ws, hl with | [_, _, _], _ => rfl) (rk_cons (re_var (pv 6)) (rk_cons (re_var (pv 2)) (rk_cons (re_var (pv 1)) rk_nil)))) (ra_cons (re_call DD.d__law_is_gap c (by decide) (by rfl) (ra_cons (re_var (pv 1)) (ra_cons (re_var (pv 2)) (ra_cons (re_var (pv 6)) ra_nil)))) ra_nil))))) (rss_one (rs_ret (re_bl))) rss_nil)))))
  (rss_one (rs_ret (re_bl))))))))
/-! ### _law_kind -/
abbrev s__law_kind : Stmt := top 41
theorem sc__law_kind : FnScope ["ask", "error"] ["ask"] (defScope s__law_kind) := ⟨rfl, rfl, rfl, by decide +kernel, rfl, by decide +kernel, by decide +kernel⟩
def b__law_kind : MS := (sSeq (sIf (bnd (mB1 (mVar 1) (dIsX XC "BadNumber")) asB) (sE (mB1 (mVar 1) (dXf "BadNumber" "word")) sRt) sNil)
  (sE (mIf (bnd (mB1 (mVar 1) (dIsX XC "BadGapKind")) asB) (ret (.str "kind")) (ret .non)) sRt))
abbrev KR : Res D → Res D := rKnd 2 XC b__law_kind
theorem df__law_kind {P : Program} {w : World} {K : PySem.W.Frag} {mg : Str → Option Value} {a : Addr} {fd : FuncData} (T : Txt P w K mg) (F : Fun K "_law_kind" "_law_kind" s__law_kind a fd) (hm : mg "_law_kind" = some (.ref a)) (hb : Binds K fd ["ask"] []) :
    ∀ k, KndT P w K mg "_law_kind" k KR := fun k => ⟨a, fd, "ask", hm, F.kp, hb, fun B => kind_fn T.cau F sc__law_kind rfl rfl rfl rfl rfl rfl ⟨by decide, by decide, by decide⟩ (by decide) (fun _ _ => rfl) fun cdv A outer s H E c tk =>
  have nd := (sc__law_kind).nd
  (rss_cons (rs_if (rt_val (re_isX T.xt (by decide) (by rfl) T.b_isinstance (by rfl) (re_var (pv 1)))) (rss_one (rs_ret (re_xf T.xt (by decide) T.n_BadNumber_word (re_var (pv 1))))) rss_nil)
  (rss_one (rs_ret (re_if (rt_val (re_isX T.xt (by decide) (by rfl) T.b_isinstance (by rfl) (re_var (pv 1)))) (re_str) (re_non)))))⟩
/-! ### _law_refused -/
abbrev s__law_refused : Stmt := top 42
def z__law_refused : List (LamSp × M D) := (lamsOf ((defBody s__law_refused).getD 3 (.Pass ⟨0, 0, 0, 0⟩))).zip [(mCall 2 (mCons (mVar 1) (mCons (mVar 3) (ret []))) f_gap_row),
  (mCall 3 (mCons (mVar 1) (mCons (mVar 3) (mCons (mVar 2) (ret [])))) f_is_gap_row),
  (mCall 2 (mCons (mVar 1) (mCons (mVar 3) (ret []))) f_gap_rows),
  (mCall 2 (mCons (mVar 4) (mCons (mVar 3) (ret []))) f_gap_rows),
  (mCall 2 (mCons (mVar 4) (mCons (mVar 3) (ret []))) f_gap_row),
  (mCall 3 (mCons (mVar 4) (mCons (mVar 3) (mCons (mVar 2) (ret [])))) f_is_gap_row),
  (mCall 2 (mCons (ret (.int 8)) (mCons (mVar 3) (ret []))) f_gap_rows)]
def b__law_refused : MS := (sSeq (mTwo (mVal (mCall 2 (mCons (mVar 0) (mCons (mLst (mCons (ret .non) (mCons (ret (.int 0)) (mCons (mB1 (ret (.int 1)) dNeg) (mCons (ret (.int 41)) (mCons (ret (.bl true)) (mCons (ret (.str "1")) (mCons (mTup (mCons (ret (.int 1)) (ret []))) (ret []))))))))) (ret []))) f__law_pick)) (mVal (mCall 1 (mCons (mVar 0) (ret [])) f__law_odd)) 1 2)
  (sSeq (sE (mCall 2 (mCons (mVar 0) (mCons (mLst (mCons (ret .non) (mCons (ret (.str "")) (mCons (ret (.str "Whole")) (mCons (ret (.str "hook")) (mCons (ret (.int 1)) (mCons (mTup (mCons (ret (.str "whole")) (ret []))) (mCons (mLst (mCons (ret (.str "hooked")) (ret []))) (mCons (ret (.str "wholehooked")) (ret [])))))))))) (ret []))) f__law_pick) (sSet 3))
  (sSeq (sE (bn2 (ret (.int 9)) (mCall 2 (mCons (mVar 0) (mCons (ret (.int 32)) (ret []))) f__law_draw) fun x y => lft (dAdd x y)) (sSet 4))
  (askAll KR f__law_same 5 6 7 z__law_refused))))
def f__law_refused : List D → DS → Res D := runFn 8 b__law_refused
theorem sc__law_refused : FnScope ["draws", "off", "value", "odd", "nine", "asked", "ask", "due"] ["draws"] (defScope s__law_refused) := ⟨rfl, rfl, rfl, by decide +kernel, rfl, by decide +kernel, by decide +kernel⟩
structure D__law_refused (P : Program) (w : World) (K : PySem.W.Frag) (mg : Str → Option Value) (base : Heap) : Prop where
  knd : ∀ k, KndT P w K mg "_law_kind" k KR
  d__law_pick : Df P w K mg base 3 "_law_pick" ["state", "some"] f__law_pick (top 30)
  d__law_odd : Df P w K mg base 4 "_law_odd" ["draws"] f__law_odd (top 34)
  d__law_draw : Df P w K mg base 2 "_law_draw" ["state", "room"] f__law_draw (top 29)
  d__law_same : Df P w K mg base 2 "_law_same" ["found", "due"] f__law_same (top 33)
structure L__law_refused (P : Program) (w : World) (K : PySem.W.Frag) (mg : Str → Option Value) (base : Heap) : Prop where
  d_gap_row : Df P w K mg base 5 "gap_row" ["n", "kind"] f_gap_row (top 25)
  d_is_gap_row : Df P w K mg base 5 "is_gap_row" ["n", "kind", "value"] f_is_gap_row (top 14)
  d_gap_rows : Df P w K mg base 5 "gap_rows" ["n", "kind"] f_gap_rows (top 18)
theorem df__law_refused {P : Program} {w : World} {K : PySem.W.Frag} {mg : Str → Option Value} {base : Heap} {a : Addr} {fd : FuncData} (T : Txt P w K mg) (DD : D__law_refused P w K mg base) (DA : ∀ base, L__law_refused P w K mg base) {cc : Addr} (hcc : fd.code = .ref cc) (TF : TabF base mg cc "_law_refused") (F : Fun K "_law_refused" "_law_refused" s__law_refused a fd) (hm : mg "_law_refused" = some (.ref a)) (hb : Binds K fd ["draws"] []) :
    Df P w K mg base 9 "_law_refused" ["draws"] f__law_refused s__law_refused := df_ofC F hcc hm sc__law_refused hb fun A outer s H E c hp tk => by
  have nd := (sc__law_refused).nd
  obtain ⟨TP, MK⟩ := lamMk_cx (CXg := L2.CX P w) (P := P) (w := w) (K := K) (N := ["draws", "off", "value", "odd", "nine", "asked", "ask", "due"]) (scope := defScope s__law_refused) (f := a) (A := A) (outer := outer) (s := s) (H := H) (E := E) TF
  exact (rss_cons (rs_par2T 1 2 c.calm nd rfl rfl (by decide) (Or.inr rfl) (Or.inr rfl) (rv_e (re_call DD.d__law_pick c (by decide) (by rfl) (ra_cons (re_var (pv 0)) (ra_cons (re_lst (ra_cons (re_non) (ra_cons (re_int) (ra_cons (re_neg (RE.q (re_int))) (ra_cons (re_int) (ra_cons (re_bl) (ra_cons (re_str) (ra_cons (re_tup (ra_cons (re_int) ra_nil)) ra_nil)))))))) ra_nil)))) (rv_e (re_call DD.d__law_odd c (by decide) (by rfl) (ra_cons (re_var (pv 0)) ra_nil))))
  (rss_cons (rs_set 3 nd rfl (Or.inr rfl) (re_call DD.d__law_pick c (by decide) (by rfl) (ra_cons (re_var (pv 0)) (ra_cons (re_lst (ra_cons (re_non) (ra_cons (re_str) (ra_cons (re_str) (ra_cons (re_str) (ra_cons (re_int) (ra_cons (re_tup (ra_cons (re_str) ra_nil)) (ra_cons (re_lst (ra_cons (re_str) ra_nil)) (ra_cons (re_str) ra_nil))))))))) ra_nil))))
  (rss_cons (rs_set 4 nd rfl (Or.inr rfl) (re_add (RE.q (re_int)) (RE.q (re_call DD.d__law_draw c (by decide) (by rfl) (ra_cons (re_var (pv 0)) (ra_cons (re_int) ra_nil))))))
  (rss_askRet MK c (Z := z__law_refused) (.cons ⟨scM_cx (by decide +kernel), by rfl, (fun _ _ _ _ _ => by rfl), fun B A2 out2 t2 G2 E2 f2 c2 cl2 cB => have DB := DA B; (re_call DB.d_gap_row cB (by decide) (by rfl) (ra_cons (re_var (pv 1)) (ra_cons (re_var (pv 3)) ra_nil)))⟩
    (.cons ⟨scM_cx (by decide +kernel), by rfl, (fun _ _ _ _ _ => by rfl), fun B A2 out2 t2 G2 E2 f2 c2 cl2 cB => have DB := DA B; (re_call DB.d_is_gap_row cB (by decide) (by rfl) (ra_cons (re_var (pv 1)) (ra_cons (re_var (pv 3)) (ra_cons (re_var (pv 2)) ra_nil))))⟩
    (.cons ⟨scM_cx (by decide +kernel), by rfl, (fun _ _ _ _ _ => by rfl), fun B A2 out2 t2 G2 E2 f2 c2 cl2 cB => have DB := DA B; (re_call DB.d_gap_rows cB (by decide) (by rfl) (ra_cons (re_var (pv 1)) (ra_cons (re_var (pv 3)) ra_nil)))⟩
    (.cons ⟨scM_cx (by decide +kernel), by rfl, (fun _ _ _ _ _ => by rfl), fun B A2 out2 t2 G2 E2 f2 c2 cl2 cB => have DB := DA B; (re_call DB.d_gap_rows cB (by decide) (by rfl) (ra_cons (re_var (pv 4)) (ra_cons (re_var (pv 3)) ra_nil)))⟩
    (.cons ⟨scM_cx (by decide +kernel), by rfl, (fun _ _ _ _ _ => by rfl), fun B A2 out2 t2 G2 E2 f2 c2 cl2 cB => have DB := DA B; (re_call DB.d_gap_row cB (by decide) (by rfl) (ra_cons (re_var (pv 4)) (ra_cons (re_var (pv 3)) ra_nil)))⟩
    (.cons ⟨scM_cx (by decide +kernel), by rfl, (fun _ _ _ _ _ => by rfl), fun B A2 out2 t2 G2 E2 f2 c2 cl2 cB => have DB := DA B; (re_call DB.d_is_gap_row cB (by decide) (by rfl) (ra_cons (re_var (pv 4)) (ra_cons (re_var (pv 3)) (ra_cons (re_var (pv 2)) ra_nil))))⟩
    (.cons ⟨scM_cx (by decide +kernel), by rfl, (fun _ _ _ _ _ => by rfl), fun B A2 out2 t2 G2 E2 f2 c2 cl2 cB => have DB := DA B; (re_call DB.d_gap_rows cB (by decide) (by rfl) (ra_cons (re_int) (ra_cons (re_var (pv 3)) ra_nil)))⟩
    .nil))))))) (by rfl) (by decide) nd rfl rfl (DD.knd _) DD.d__law_same rfl (by decide) (by decide) (by decide) (by decide) (fun _ => pv 5) (blkOk_by (by show blkC ["draws", "off", "value", "odd", "nine", "asked", "ask", "due"] (defScope s__law_refused) _ [("ask", 6), ("due", 7)] = true; decide +kernel)) (fun _ _ _ _ => rc_tup rfl (rcs_cons (rc_name 6 nd rfl (Or.inl rfl) (by decide)) (rcs_cons (rc_name 7 nd rfl (Or.inl rfl) (by decide)) rcs_nil))) (fun _ _ _ _ => pv 7) rfl (fun _ _ _ _ => by first | exact .inl rfl | exact .inr rfl | exact rfl) (fun _ _ _ _ => by rfl) (fun _ _ _ _ => by rfl)))))
/-! ### law -/
abbrev s_law : Stmt := top 43
theorem sc_law : FnScope ["script", "draws", "turn", "n", "kind"] ["script"] (defScope s_law) := ⟨rfl, rfl, rfl, by decide +kernel, rfl, by decide +kernel, by decide +kernel⟩
def r_law : MS := (sSeq (sFor (mRng1 (bn2 (ret (.int 2)) (bn2 (mB1 (mVar 0) dLen) (ret (.int 4)) fun x y => lft (dMin x y)) fun x y => lft (dAdd x y))) (gpName 2) (sSeq (sE (bn2 (ret (.int 1)) (mCall 2 (mCons (mVar 1) (mCons (ret (.int 40)) (ret []))) f__law_draw) fun x y => lft (dAdd x y)) (sSet 3))
  (sSeq (sFor (bnd (mLst (mCons (ret (.str "whole")) (mCons (ret (.str "hooked")) (ret [])))) asL) (gpName 4) (sIf (mOrT (mNotT (bnd (mCall 3 (mCons (mVar 1) (mCons (mVar 3) (mCons (mVar 4) (ret [])))) f__law_told) asB)) (mNotT (bnd (mCall 3 (mCons (mVar 1) (mCons (bn2 (ret (.int 1)) (mCall 2 (mCons (mVar 1) (mCons (ret (.int 8)) (ret []))) f__law_draw) fun x y => lft (dAdd x y)) (mCons (mVar 4) (ret [])))) f__law_told) asB))) (sE (ret (.bl false)) sRt) sNil))
  (sIf (mOrT (mNotT (bnd (mCall 2 (mCons (bn2 (ret (.int 1)) (mCall 2 (mCons (mVar 1) (mCons (ret (.int 8)) (ret []))) f__law_draw) fun x y => lft (dAdd x y)) (mCons (mCall 2 (mCons (mVar 1) (mCons (mLst (mCons (ret (.str "whole")) (mCons (ret (.str "hooked")) (ret [])))) (ret []))) f__law_pick) (ret []))) f__law_listed) asB)) (mNotT (bnd (mCall 1 (mCons (mVar 1) (ret [])) f__law_refused) asB))) (sE (ret (.bl false)) sRt) sNil))))
  (sE (ret (.bl true)) sRt))
def b_law : MS := mBegun 0 1 r_law
structure D_law (P : Program) (w : World) (K : PySem.W.Frag) (mg : Str → Option Value) (base : Heap) : Prop where
  beg : BegT P w K mg "_law_begun" 1
  d__law_draw : Df P w K mg base 2 "_law_draw" ["state", "room"] f__law_draw (top 29)
  d__law_told : Df P w K mg base 6 "_law_told" ["draws", "n", "kind"] f__law_told (top 40)
  d__law_refused : Df P w K mg base 9 "_law_refused" ["draws"] f__law_refused (top 42)
  d__law_listed : Df P w K mg base 9 "_law_listed" ["n", "kind"] f__law_listed (top 39)
  d__law_pick : Df P w K mg base 3 "_law_pick" ["state", "some"] f__law_pick (top 30)
theorem fn_law {P : Program} {w : World} {K : PySem.W.Frag} {mg : Str → Option Value} {base : Heap} {a cc : Addr} {fd : FuncData} (T : Txt P w K mg) (DD : D_law P w K mg base) (F : Fun K "law" "law" s_law a fd) (hcc : fd.code = .ref cc)
    (hmb : ∀ ns : List Int, ns.length ≤ 63 → ∃ S', b_law (SD.val (.frl (intsOf ns)) :: List.replicate (["script", "draws", "turn", "n", "kind"] : List Str).length.pred SD.no) dsNil = .rt (.bl true) S') : FnOk P w K mg base (L2.CX P w) 10 a fd ["script"] (spLaw K) :=
  law_fn F hcc sc_law (fun A outer s H E c hp tk =>
  have nd := (sc_law).nd
  pss_begun (is := 0) (id := 1) DD.beg c (by decide) (by rfl) nd rfl (by first | exact .inl rfl | exact .inr rfl) (Or.inl rfl) (pv 0)
  (rss_cons (rs_for (vs := [2]) hp c.calm (ri_rng1 (by rfl) T.b_range (RE.q (re_add (RE.q (re_int)) (RE.q (re_min2 c.calm (by rfl) T.b_min (RE.q (re_len (by rfl) T.b_len (RE.q (re_var (pv 0))))) (RE.q (re_int))))))) (rc_name 2 nd rfl (Or.inl rfl) (by decide)) (rss_cons (rs_set 3 nd rfl (Or.inl rfl) (re_add (RE.q (re_int)) (RE.q (re_call DD.d__law_draw c (by decide) (by rfl) (ra_cons (re_var (pv 1)) (ra_cons (re_int) ra_nil))))))
  (rss_cons (rs_for (vs := [4]) hp c.calm (ri_f (re_lst (ra_cons (re_str) (ra_cons (re_str) ra_nil)))) (rc_name 4 nd rfl (Or.inl rfl) (by decide)) (rss_one (rs_if (rt_w (rw_or (rt_not (rt_val (re_call DD.d__law_told c (by decide) (by rfl) (ra_cons (re_var (pv 1)) (ra_cons (re_var (pv 3)) (ra_cons (re_var (pv 4)) ra_nil)))))) (rw_or1 (rt_not (rt_val (re_call DD.d__law_told c (by decide) (by rfl) (ra_cons (re_var (pv 1)) (ra_cons (re_add (RE.q (re_int)) (RE.q (re_call DD.d__law_draw c (by decide) (by rfl) (ra_cons (re_var (pv 1)) (ra_cons (re_int) ra_nil))))) (ra_cons (re_var (pv 4)) ra_nil))))))))) (rss_one (rs_ret (re_bl))) rss_nil)))
  (rss_one (rs_if (rt_w (rw_or (rt_not (rt_val (re_call DD.d__law_listed c (by decide) (by rfl) (ra_cons (re_add (RE.q (re_int)) (RE.q (re_call DD.d__law_draw c (by decide) (by rfl) (ra_cons (re_var (pv 1)) (ra_cons (re_int) ra_nil))))) (ra_cons (re_call DD.d__law_pick c (by decide) (by rfl) (ra_cons (re_var (pv 1)) (ra_cons (re_lst (ra_cons (re_str) (ra_cons (re_str) ra_nil))) ra_nil))) ra_nil))))) (rw_or1 (rt_not (rt_val (re_call DD.d__law_refused c (by decide) (by rfl) (ra_cons (re_var (pv 1)) ra_nil))))))) (rss_one (rs_ret (re_bl))) rss_nil)))))
  (rss_one (rs_ret (re_bl))))) hmb
/-! ### _law_caught -/
abbrev s__law_caught : Stmt := top 31
theorem sc__law_caught : FnScope ["action", "found", "error"] ["action"] (defScope s__law_caught) := ⟨rfl, rfl, rfl, by decide +kernel, rfl, by decide +kernel, by decide +kernel⟩
theorem cau_mk {P : Program} {w : World} {K : PySem.W.Frag} {mg : Str → Option Value} {CP : Addr} {cd : Value} (h : DefAt K mg "_law_caught" s__law_caught ["action"] cd) (hP : mg "PairError" = some (.ref CP)) (hx : ∀ c ∈ XC, ∀ C, mg c = some (.ref C) → PySem.W.exmOne K (.ref C) (.ref CP) = some true) : CauT P w K mg "_law_caught" XC := by
  obtain ⟨f, fd, hm, F, hb, _⟩ := h.ex
  exact ⟨f, CP, fd, "action", hm, F.kp, hb, fun B k => caught_fn F sc__law_caught hP rfl rfl rfl rfl rfl ⟨by decide, by decide, by decide, by decide⟩ ⟨by decide, by decide, by decide⟩ (fun _ _ => ⟨rfl, rfl, rfl⟩), hx⟩
/-! ### all of them -/
def TFs (base : Heap) (mg : Str → Option Value) (c0 c1 : Addr) : Prop := TabF base mg c0 "_law_listed" ∧ TabF base mg c1 "_law_refused" ∧ True
theorem asm {P : Program} {w : World} {K : PySem.W.Frag} {mg : Str → Option Value} {c0 c1 cL : Addr} {cd_is_whole cd_need_whole cd_need_gaps cd_is_row_of cd_is_gap_row cd_blank_row cd_filled_first cd_rows_found cd_gap_rows cd_pairs_of_four cd_pairs_of_five cd_pairs_of_six cd_pairs_of_seven cd_row_by_places cd_great_row cd_gap_row cd__law_begun cd__law_blended cd__law_draw cd__law_pick cd__law_is_truth cd__law_same cd__law_odd cd__law_is_number cd__law_bent_list cd__law_is_gap cd__law_all_rows cd__law_told cd__law_kind : Value} (T : Txt P w K mg) (h_is_whole : DefAt K mg "is_whole" s_is_whole ["value"] cd_is_whole) (h_need_whole : DefAt K mg "need_whole" s_need_whole ["value", "low", "high", "word"] cd_need_whole) (h_need_gaps : DefAt K mg "need_gaps" s_need_gaps ["n", "most", "kind"] cd_need_gaps) (h_is_row_of : DefAt K mg "is_row_of" s_is_row_of ["n", "kind", "value"] cd_is_row_of) (h_is_gap_row : DefAt K mg "is_gap_row" s_is_gap_row ["n", "kind", "value"] cd_is_gap_row) (h_blank_row : DefAt K mg "blank_row" s_blank_row ["n", "kind"] cd_blank_row) (h_filled_first : DefAt K mg "filled_first" s_filled_first ["row", "number"] cd_filled_first) (h_rows_found : DefAt K mg "rows_found" s_rows_found ["n", "kind", "most"] cd_rows_found) (h_gap_rows : DefAt K mg "gap_rows" s_gap_rows ["n", "kind"] cd_gap_rows) (h_pairs_of_four : DefAt K mg "pairs_of_four" s_pairs_of_four ["s"] cd_pairs_of_four) (h_pairs_of_five : DefAt K mg "pairs_of_five" s_pairs_of_five ["s"] cd_pairs_of_five) (h_pairs_of_six : DefAt K mg "pairs_of_six" s_pairs_of_six ["s"] cd_pairs_of_six) (h_pairs_of_seven : DefAt K mg "pairs_of_seven" s_pairs_of_seven ["s"] cd_pairs_of_seven) (h_row_by_places : DefAt K mg "row_by_places" s_row_by_places ["size", "pairs"] cd_row_by_places) (h_great_row : DefAt K mg "great_row" s_great_row ["n"] cd_great_row) (h_gap_row : DefAt K mg "gap_row" s_gap_row ["n", "kind"] cd_gap_row) (h__law_begun : DefAt K mg "_law_begun" s__law_begun ["script"] cd__law_begun) (h__law_blended : DefAt K mg "_law_blended" s__law_blended ["state"] cd__law_blended) (h__law_draw : DefAt K mg "_law_draw" s__law_draw ["state", "room"] cd__law_draw) (h__law_pick : DefAt K mg "_law_pick" s__law_pick ["state", "some"] cd__law_pick) (h__law_is_truth : DefAt K mg "_law_is_truth" s__law_is_truth ["found", "due"] cd__law_is_truth) (h__law_same : DefAt K mg "_law_same" s__law_same ["found", "due"] cd__law_same) (h__law_odd : DefAt K mg "_law_odd" s__law_odd ["draws"] cd__law_odd) (h__law_is_number : DefAt K mg "_law_is_number" s__law_is_number ["value", "low", "high"] cd__law_is_number) (h__law_bent_list : DefAt K mg "_law_bent_list" s__law_bent_list ["draws", "value", "odd"] cd__law_bent_list) (h__law_is_gap : DefAt K mg "_law_is_gap" s__law_is_gap ["n", "kind", "value"] cd__law_is_gap) (h__law_all_rows : DefAt K mg "_law_all_rows" s__law_all_rows ["n", "kind"] cd__law_all_rows) (h__law_listed : DefAt K mg "_law_listed" s__law_listed ["n", "kind"] (.ref c0)) (h__law_told : DefAt K mg "_law_told" s__law_told ["draws", "n", "kind"] cd__law_told) (h__law_kind : DefAt K mg "_law_kind" s__law_kind ["ask"] cd__law_kind) (h__law_refused : DefAt K mg "_law_refused" s__law_refused ["draws"] (.ref c1)) (h_law : DefAt K mg "law" s_law ["script"] (.ref cL))
    (hmb : ∀ ns : List Int, ns.length ≤ 63 → ∃ S', b_law (SD.val (.frl (intsOf ns)) :: List.replicate (["script", "draws", "turn", "n", "kind"] : List Str).length.pred SD.no) dsNil = .rt (.bl true) S') :
    ∃ (f : Addr) (fd : FuncData), mg "law" = some (.ref f) ∧ (∀ (s : Shared) (u : Value), BindsTo s fd ⟨[u], []⟩ [("script", u)]) ∧ ∀ base : Heap, TFs base mg c0 c1 → FnOk P w K mg base (L2.CX P w) 10 f fd ["script"] (spLaw K) := by
  obtain ⟨a_is_whole, fd_is_whole, m_is_whole, F_is_whole, bb_is_whole, e_is_whole⟩ := h_is_whole.ex
  obtain ⟨a_need_whole, fd_need_whole, m_need_whole, F_need_whole, bb_need_whole, e_need_whole⟩ := h_need_whole.ex
  obtain ⟨a_need_gaps, fd_need_gaps, m_need_gaps, F_need_gaps, bb_need_gaps, e_need_gaps⟩ := h_need_gaps.ex
  obtain ⟨a_is_row_of, fd_is_row_of, m_is_row_of, F_is_row_of, bb_is_row_of, e_is_row_of⟩ := h_is_row_of.ex
  obtain ⟨a_is_gap_row, fd_is_gap_row, m_is_gap_row, F_is_gap_row, bb_is_gap_row, e_is_gap_row⟩ := h_is_gap_row.ex
  obtain ⟨a_blank_row, fd_blank_row, m_blank_row, F_blank_row, bb_blank_row, e_blank_row⟩ := h_blank_row.ex
  obtain ⟨a_filled_first, fd_filled_first, m_filled_first, F_filled_first, bb_filled_first, e_filled_first⟩ := h_filled_first.ex
  obtain ⟨a_rows_found, fd_rows_found, m_rows_found, F_rows_found, bb_rows_found, e_rows_found⟩ := h_rows_found.ex
  obtain ⟨a_gap_rows, fd_gap_rows, m_gap_rows, F_gap_rows, bb_gap_rows, e_gap_rows⟩ := h_gap_rows.ex
  obtain ⟨a_pairs_of_four, fd_pairs_of_four, m_pairs_of_four, F_pairs_of_four, bb_pairs_of_four, e_pairs_of_four⟩ := h_pairs_of_four.ex
  obtain ⟨a_pairs_of_five, fd_pairs_of_five, m_pairs_of_five, F_pairs_of_five, bb_pairs_of_five, e_pairs_of_five⟩ := h_pairs_of_five.ex
  obtain ⟨a_pairs_of_six, fd_pairs_of_six, m_pairs_of_six, F_pairs_of_six, bb_pairs_of_six, e_pairs_of_six⟩ := h_pairs_of_six.ex
  obtain ⟨a_pairs_of_seven, fd_pairs_of_seven, m_pairs_of_seven, F_pairs_of_seven, bb_pairs_of_seven, e_pairs_of_seven⟩ := h_pairs_of_seven.ex
  obtain ⟨a_row_by_places, fd_row_by_places, m_row_by_places, F_row_by_places, bb_row_by_places, e_row_by_places⟩ := h_row_by_places.ex
  obtain ⟨a_great_row, fd_great_row, m_great_row, F_great_row, bb_great_row, e_great_row⟩ := h_great_row.ex
  obtain ⟨a_gap_row, fd_gap_row, m_gap_row, F_gap_row, bb_gap_row, e_gap_row⟩ := h_gap_row.ex
  obtain ⟨a__law_begun, fd__law_begun, m__law_begun, F__law_begun, bb__law_begun, e__law_begun⟩ := h__law_begun.ex
  obtain ⟨a__law_blended, fd__law_blended, m__law_blended, F__law_blended, bb__law_blended, e__law_blended⟩ := h__law_blended.ex
  obtain ⟨a__law_draw, fd__law_draw, m__law_draw, F__law_draw, bb__law_draw, e__law_draw⟩ := h__law_draw.ex
  obtain ⟨a__law_pick, fd__law_pick, m__law_pick, F__law_pick, bb__law_pick, e__law_pick⟩ := h__law_pick.ex
  obtain ⟨a__law_is_truth, fd__law_is_truth, m__law_is_truth, F__law_is_truth, bb__law_is_truth, e__law_is_truth⟩ := h__law_is_truth.ex
  obtain ⟨a__law_same, fd__law_same, m__law_same, F__law_same, bb__law_same, e__law_same⟩ := h__law_same.ex
  obtain ⟨a__law_odd, fd__law_odd, m__law_odd, F__law_odd, bb__law_odd, e__law_odd⟩ := h__law_odd.ex
  obtain ⟨a__law_is_number, fd__law_is_number, m__law_is_number, F__law_is_number, bb__law_is_number, e__law_is_number⟩ := h__law_is_number.ex
  obtain ⟨a__law_bent_list, fd__law_bent_list, m__law_bent_list, F__law_bent_list, bb__law_bent_list, e__law_bent_list⟩ := h__law_bent_list.ex
  obtain ⟨a__law_is_gap, fd__law_is_gap, m__law_is_gap, F__law_is_gap, bb__law_is_gap, e__law_is_gap⟩ := h__law_is_gap.ex
  obtain ⟨a__law_all_rows, fd__law_all_rows, m__law_all_rows, F__law_all_rows, bb__law_all_rows, e__law_all_rows⟩ := h__law_all_rows.ex
  obtain ⟨a__law_listed, fd__law_listed, m__law_listed, F__law_listed, bb__law_listed, e__law_listed⟩ := h__law_listed.ex
  obtain ⟨a__law_told, fd__law_told, m__law_told, F__law_told, bb__law_told, e__law_told⟩ := h__law_told.ex
  obtain ⟨a__law_kind, fd__law_kind, m__law_kind, F__law_kind, bb__law_kind, e__law_kind⟩ := h__law_kind.ex
  obtain ⟨a__law_refused, fd__law_refused, m__law_refused, F__law_refused, bb__law_refused, e__law_refused⟩ := h__law_refused.ex
  obtain ⟨a_law, fd_law, m_law, F_law, bb_law, e_law⟩ := h_law.ex
  have dd_is_whole : ∀ base : Heap, Df P w K mg base 1 "is_whole" ["value"] f_is_whole (top 6) := fun base => df_is_whole T F_is_whole m_is_whole bb_is_whole
  have dd_need_whole : ∀ base : Heap, Df P w K mg base 3 "need_whole" ["value", "low", "high", "word"] f_need_whole (top 7) := fun base => df_need_whole T ⟨(dd_is_whole base)⟩ F_need_whole m_need_whole bb_need_whole
  have dd_need_gaps : ∀ base : Heap, Df P w K mg base 4 "need_gaps" ["n", "most", "kind"] f_need_gaps (top 12) := fun base => df_need_gaps T ⟨(dd_need_whole base)⟩ F_need_gaps m_need_gaps bb_need_gaps
  have dd_is_row_of : ∀ base : Heap, Df P w K mg base 2 "is_row_of" ["n", "kind", "value"] f_is_row_of (top 13) := fun base => df_is_row_of T ⟨(dd_is_whole base)⟩ F_is_row_of m_is_row_of bb_is_row_of
  have dd_is_gap_row : ∀ base : Heap, Df P w K mg base 5 "is_gap_row" ["n", "kind", "value"] f_is_gap_row (top 14) := fun base => df_is_gap_row T ⟨(dd_need_gaps base), (dd_is_row_of base)⟩ F_is_gap_row m_is_gap_row bb_is_gap_row
  have dd_blank_row : ∀ base : Heap, Df P w K mg base 1 "blank_row" ["n", "kind"] f_blank_row (top 15) := fun base => df_blank_row T F_blank_row m_blank_row bb_blank_row
  have dd_filled_first : ∀ base : Heap, Df P w K mg base 1 "filled_first" ["row", "number"] f_filled_first (top 16) := fun base => df_filled_first T F_filled_first m_filled_first bb_filled_first
  have dd_rows_found : ∀ base : Heap, Df P w K mg base 2 "rows_found" ["n", "kind", "most"] f_rows_found (top 17) := fun base => df_rows_found T ⟨(dd_blank_row base), (dd_filled_first base)⟩ F_rows_found m_rows_found bb_rows_found
  have dd_gap_rows : ∀ base : Heap, Df P w K mg base 5 "gap_rows" ["n", "kind"] f_gap_rows (top 18) := fun base => df_gap_rows T ⟨(dd_need_gaps base), (dd_rows_found base)⟩ F_gap_rows m_gap_rows bb_gap_rows
  have dd_pairs_of_four : ∀ base : Heap, Df P w K mg base 1 "pairs_of_four" ["s"] f_pairs_of_four (top 19) := fun base => df_pairs_of_four T F_pairs_of_four m_pairs_of_four bb_pairs_of_four
  have dd_pairs_of_five : ∀ base : Heap, Df P w K mg base 1 "pairs_of_five" ["s"] f_pairs_of_five (top 20) := fun base => df_pairs_of_five T F_pairs_of_five m_pairs_of_five bb_pairs_of_five
  have dd_pairs_of_six : ∀ base : Heap, Df P w K mg base 1 "pairs_of_six" ["s"] f_pairs_of_six (top 21) := fun base => df_pairs_of_six T F_pairs_of_six m_pairs_of_six bb_pairs_of_six
  have dd_pairs_of_seven : ∀ base : Heap, Df P w K mg base 1 "pairs_of_seven" ["s"] f_pairs_of_seven (top 22) := fun base => df_pairs_of_seven T F_pairs_of_seven m_pairs_of_seven bb_pairs_of_seven
  have dd_row_by_places : ∀ base : Heap, Df P w K mg base 1 "row_by_places" ["size", "pairs"] f_row_by_places (top 23) := fun base => df_row_by_places T F_row_by_places m_row_by_places bb_row_by_places
  have dd_great_row : ∀ base : Heap, Df P w K mg base 2 "great_row" ["n"] f_great_row (top 24) := fun base => df_great_row T ⟨(dd_row_by_places base), (dd_pairs_of_four base), (dd_pairs_of_five base), (dd_pairs_of_six base), (dd_pairs_of_seven base)⟩ F_great_row m_great_row bb_great_row
  have dd_gap_row : ∀ base : Heap, Df P w K mg base 5 "gap_row" ["n", "kind"] f_gap_row (top 25) := fun base => df_gap_row T ⟨(dd_need_gaps base), (dd_great_row base), (dd_rows_found base)⟩ F_gap_row m_gap_row bb_gap_row
  have dd__law_begun : BegT P w K mg "_law_begun" 1 := df__law_begun T F__law_begun m__law_begun bb__law_begun
  have dd__law_blended : ∀ base : Heap, Df P w K mg base 1 "_law_blended" ["state"] f__law_blended (top 28) := fun base => df__law_blended T F__law_blended m__law_blended bb__law_blended
  have dd__law_draw : ∀ base : Heap, Df P w K mg base 2 "_law_draw" ["state", "room"] f__law_draw (top 29) := fun base => df__law_draw T ⟨(dd__law_blended base)⟩ F__law_draw m__law_draw bb__law_draw
  have dd__law_pick : ∀ base : Heap, Df P w K mg base 3 "_law_pick" ["state", "some"] f__law_pick (top 30) := fun base => df__law_pick T ⟨(dd__law_draw base)⟩ F__law_pick m__law_pick bb__law_pick
  have dd__law_is_truth : ∀ base : Heap, Df P w K mg base 1 "_law_is_truth" ["found", "due"] f__law_is_truth (top 32) := fun base => df__law_is_truth T F__law_is_truth m__law_is_truth bb__law_is_truth
  have dd__law_same : ∀ base : Heap, Df P w K mg base 2 "_law_same" ["found", "due"] f__law_same (top 33) := fun base => df__law_same T ⟨(dd__law_is_truth base)⟩ F__law_same m__law_same bb__law_same
  have dd__law_odd : ∀ base : Heap, Df P w K mg base 4 "_law_odd" ["draws"] f__law_odd (top 34) := fun base => df__law_odd T ⟨(dd__law_pick base)⟩ F__law_odd m__law_odd bb__law_odd
  have dd__law_is_number : ∀ base : Heap, Df P w K mg base 1 "_law_is_number" ["value", "low", "high"] f__law_is_number (top 35) := fun base => df__law_is_number T F__law_is_number m__law_is_number bb__law_is_number
  have dd__law_bent_list : ∀ base : Heap, Df P w K mg base 4 "_law_bent_list" ["draws", "value", "odd"] f__law_bent_list (top 36) := fun base => df__law_bent_list T ⟨(dd__law_draw base), (dd__law_pick base)⟩ F__law_bent_list m__law_bent_list bb__law_bent_list
  have dd__law_is_gap : ∀ base : Heap, Df P w K mg base 2 "_law_is_gap" ["n", "kind", "value"] f__law_is_gap (top 37) := fun base => df__law_is_gap T ⟨(dd__law_is_number base)⟩ F__law_is_gap m__law_is_gap bb__law_is_gap
  have dd__law_all_rows : ∀ base : Heap, Df P w K mg base 1 "_law_all_rows" ["n", "kind"] f__law_all_rows (top 38) := fun base => df__law_all_rows T F__law_all_rows m__law_all_rows bb__law_all_rows
  have dd__law_listed : ∀ base : Heap, TFs base mg c0 c1 → Df P w K mg base 9 "_law_listed" ["n", "kind"] f__law_listed (top 39) := fun base tf => df__law_listed T ⟨(dd__law_same base), (dd_gap_rows base), (dd__law_all_rows base), (dd__law_is_gap base)⟩ (fun base => ⟨dd_gap_rows base⟩) e__law_listed (tf.1) F__law_listed m__law_listed bb__law_listed
  have dd__law_told : ∀ base : Heap, Df P w K mg base 6 "_law_told" ["draws", "n", "kind"] f__law_told (top 40) := fun base => df__law_told T ⟨(dd_gap_row base), (dd__law_is_gap base), (dd__law_is_truth base), (dd_is_gap_row base), (dd__law_bent_list base)⟩ F__law_told m__law_told bb__law_told
  have dd__law_kind : ∀ k, KndT P w K mg "_law_kind" k KR := df__law_kind T F__law_kind m__law_kind bb__law_kind
  have dd__law_refused : ∀ base : Heap, TFs base mg c0 c1 → Df P w K mg base 9 "_law_refused" ["draws"] f__law_refused (top 42) := fun base tf => df__law_refused T ⟨dd__law_kind, (dd__law_pick base), (dd__law_odd base), (dd__law_draw base), (dd__law_same base)⟩ (fun base => ⟨dd_gap_row base, dd_is_gap_row base, dd_gap_rows base⟩) e__law_refused (tf.2.1) F__law_refused m__law_refused bb__law_refused
  refine ⟨a_law, fd_law, m_law, ?_, fun base tf => fn_law T ⟨dd__law_begun, (dd__law_draw base), (dd__law_told base), (dd__law_refused base tf), (dd__law_listed base tf), (dd__law_pick base)⟩ F_law e_law hmb⟩
  obtain ⟨oc, od, kV, doc, pm, an, cdv, ct, osl, efd, lk, hcd⟩ := F_law.ex
  intro s u
  rw [efd]
  exact .of_eq rfl
end Pf
end

section
set_option Elab.async false
set_option linter.all false
set_option maxRecDepth 1000000
set_option synthInstance.maxHeartbeats 0
set_option synthInstance.maxSize 100000
namespace Pf
open PySem PySem.Spec L2
instance : PuF f_is_whole := by unfold f_is_whole b_is_whole; infer_instance
instance : PuF f_need_whole := by unfold f_need_whole b_need_whole; infer_instance
instance : PuF f_need_gaps := by unfold f_need_gaps b_need_gaps; infer_instance
instance : PuF f_is_row_of := by unfold f_is_row_of b_is_row_of; infer_instance
instance : PuF f_is_gap_row := by unfold f_is_gap_row b_is_gap_row; infer_instance
instance : PuF f_blank_row := by unfold f_blank_row b_blank_row; infer_instance
instance : PuF f_filled_first := by unfold f_filled_first b_filled_first; infer_instance
instance : PuF f_rows_found := by unfold f_rows_found b_rows_found; infer_instance
instance : PuF f_gap_rows := by unfold f_gap_rows b_gap_rows; infer_instance
instance : PuF f_pairs_of_four := by unfold f_pairs_of_four b_pairs_of_four; infer_instance
instance : PuF f_pairs_of_five := by unfold f_pairs_of_five b_pairs_of_five; infer_instance
instance : PuF f_pairs_of_six := by unfold f_pairs_of_six b_pairs_of_six; infer_instance
instance : PuF f_pairs_of_seven := by unfold f_pairs_of_seven b_pairs_of_seven; infer_instance
instance : PuF f_row_by_places := by unfold f_row_by_places b_row_by_places; infer_instance
instance : PuF f_great_row := by unfold f_great_row b_great_row; infer_instance
instance : PuF f_gap_row := by unfold f_gap_row b_gap_row; infer_instance
instance : PuF f__law_is_truth := by unfold f__law_is_truth b__law_is_truth; infer_instance
instance : PuF f__law_same := by unfold f__law_same b__law_same; infer_instance
instance : PuF f__law_is_number := by unfold f__law_is_number b__law_is_number; infer_instance
instance : PuF f__law_is_gap := by unfold f__law_is_gap b__law_is_gap; infer_instance
instance : PuF f__law_all_rows := by unfold f__law_all_rows b__law_all_rows; infer_instance
instance : PuF f__law_listed := by unfold f__law_listed b__law_listed; infer_instance
end Pf
end

section
set_option Elab.async false
set_option linter.all false
set_option maxRecDepth 100000
namespace Pf
open PySem PySem.Spec L2
/-! ### rows with holes -/
abbrev Row := List (Option Nat)
def oD : Option Nat → D
  | none => .non
  | some k => .int (k : Nat)
def oP : Option Nat → PyData
  | none => .none
  | some k => .int (k : Nat)
def rowD (r : Row) : D := .tup (r.map oD)
theorem toP_oD (o : Option Nat) : toP (oD o) = some (oP o) := by cases o <;> simp [oD, oP, toP]
theorem toPs_oD : ∀ r : Row, toPs (r.map oD) = some (r.map oP)
  | [] => by simp [toPs]
  | o :: r => by simp only [List.map_cons, toPs, toP_oD, toPs_oD r]
theorem lay_oP : ∀ r : Row, PyData.canLayAll0 (r.map oP) = true ∧ PyData.depthAll (r.map oP) = 0
  | [] => by simp [PyData.canLayAll0, PyData.depthAll]
  | o :: r => by
    obtain ⟨h1, h2⟩ := lay_oP r
    cases o <;> simp [PyData.canLayAll0, PyData.depthAll, h1, h2, oP, PyData.canLay0, PyData.depth]
theorem shaped_oP (o : Option Nat) : SeqAt.shaped (oP o) = true := by cases o <;> simp [SeqAt.shaped, oP, PyData.canLay0, PyData.depth]
theorem shaped_row (r : Row) : SeqAt.shaped (.tuple (r.map oP)) = true := by
  obtain ⟨h1, h2⟩ := lay_oP r
  simp [SeqAt.shaped, PyData.canLay0, PyData.depth, h1, h2]
theorem eqv_oP (a b : Option Nat) : PyData.eqv (oP a) (oP b) = (a == b) := by
  cases a <;> cases b <;> simp [oP, PyData.eqv]
  rw [Bool.eq_iff_iff]
  simp only [beq_iff_eq]
  omega
theorem din_row (o : Option Nat) (r : Row) : dIn (oD o) (rowD r) = some (r.any (· == o)) := by
  unfold dIn rowD
  simp only [toP_oD, toP, toPs_oD, Option.map_some, shaped_oP, shaped_row, and_self, if_true, List.any_map]
  congr 2
  funext x
  exact eqv_oP x o
theorem dindex_row (r : Row) : dIndex (rowD r) .non = (r.findIdx? (· == none)).map fun j => .int (j : Nat) := by
  have h : (fun z => PyData.eqv z PyData.none) ∘ oP = (· == none) := funext fun x => eqv_oP x none
  unfold dIndex rowD
  simp only [toP, toPs_oD, Option.map_some, shaped_row, show SeqAt.shaped PyData.none = true from shaped_oP none, and_self, if_true, List.findIdx?_map, h]
def fillS (r : Row) (k : Nat) : Option Row := match r.findIdx? (· == none) with
  | none => none
  | some p => if r.any (· == some k) = true then none else match r[p + k]? with
    | some none => some (r.take p ++ [some k] ++ (r.drop (p + 1)).take (k - 1) ++ [some k] ++ r.drop (p + k + 1))
    | _ => none
def optD : Option Row → D
  | none => .non
  | some r => rowD r
theorem filled_ok {r : Row} {k p : Nat} (hp : r.findIdx? (· == none) = some p) (hk : 1 ≤ k) (hr : r.length ≤ 1000) (S : DS) : f_filled_first [rowD r, .int (k : Nat)] S = .ok (optD (fillS r k)) S := by
  have hsz : 4000 ≤ sizeLine := by decide
  refine runFn_rt (ρ := [.val (rowD r), .val (.int (k : Nat)), .no, .no]) rfl ?_
  have e1 : mIdx (mVar 0) (ret .non) [.val (rowD r), .val (.int (k : Nat)), .no, .no] S = .ok (.int (p : Nat)) S := by
    show (lft (dIndex (rowD r) .non) : M D) _ S = _
    rw [dindex_row, hp]; rfl
  refine (st_seq (st_set e1)).trans ?_
  refine (st_seq (st_set (d := .int ((p + k : Nat) : Int)) rfl)).trans ?_
  show sSeq _ _ [.val (rowD r), .val (.int (k : Nat)), .val (.int (p : Nat)), .val (.int ((p + k : Nat) : Int))] S = _
  generalize hρ : [SD.val (rowD r), .val (.int (k : Nat)), .val (.int (p : Nat)), .val (.int ((p + k : Nat) : Int))] = ρ
  have v0 : mVar 0 ρ S = .ok (rowD r) S := by rw [← hρ]; rfl
  have v1 : mVar 1 ρ S = .ok (.int (k : Nat)) S := by rw [← hρ]; rfl
  have v2 : mVar 2 ρ S = .ok (.int (p : Nat)) S := by rw [← hρ]; rfl
  have v3 : mVar 3 ρ S = .ok (.int ((p + k : Nat) : Int)) S := by rw [← hρ]; rfl
  have c1 : (bn2 (mVar 1) (mVar 0) fun x y => lft (dIn x y)) ρ S = .ok (r.any (· == some k)) S := st_op v1 v0 (din_row (some k) r)
  have c2 : (bn2 (mVar 3) (mB1 (mVar 0) dLen) fun x y => lft (dGe x y)) ρ S = .ok (decide (r.length ≤ p + k)) S := by
    refine st_op v3 (st_b1 v0 (d := .int (r.map oD).length) rfl) ?_
    rw [d_gei, List.length_map]
    congr 1
    exact decide_eq_decide.mpr (by omega)
  have c3 : ∀ o, r[p + k]? = some o → (bn2 (bn2 (mVar 0) (mVar 3) fun x y => lft (dIx x y)) (ret .non) fun x y => lft (dIsNot x y)) ρ S = .ok o.isSome S := fun o ho => by
    refine st_op (st_op v0 v3 (d := oD o) ?_) rfl ?_
    · show atI _ _ = _
      rw [atI_nat, List.getElem?_map, ho]; rfl
    · cases o <;> rfl
  have hplt : p < r.length := (List.findIdx?_eq_some_iff_getElem.mp hp).1
  unfold fillS
  rw [hp]
  dsimp only
  by_cases ha : r.any (· == some k) = true
  · rw [if_pos ha]
    rw [ha] at c1
    exact st_seq_rt ((st_if_t (st_or_t c1)).trans (st_rt rfl))
  rw [if_neg ha]
  rw [Bool.not_eq_true] at ha
  rw [ha] at c1
  by_cases hl : r.length ≤ p + k
  · rw [List.getElem?_eq_none hl]
    rw [decide_eq_true hl] at c2
    exact st_seq_rt ((st_if_t ((st_or_f c1).trans (st_or_t c2))).trans (st_rt rfl))
  rw [decide_eq_false hl] at c2
  have hlt : p + k < r.length := by omega
  have c3' := c3 _ (List.getElem?_eq_getElem hlt)
  rw [List.getElem?_eq_getElem hlt]
  cases hc : r[p + k] with
  | some j =>
    rw [hc] at c3'
    exact st_seq_rt ((st_if_t ((st_or_f c1).trans ((st_or_f c2).trans c3'))).trans (st_rt rfl))
  | none =>
    rw [hc] at c3'
    refine (st_seq (st_if_f ((st_or_f c1).trans ((st_or_f c2).trans c3')))).trans ?_
    refine st_rt ?_
    have q1 := st_sl v0 (ml := ret none) rfl (st_part v2) (d := .tup ((r.take p).map oD)) (by show some _ = some _; rw [cut_to, List.map_take])
    have tk : mTup (mCons (mVar 1) (ret [])) ρ S = .ok (.tup ([some k].map oD)) S := st_tup (st_cons v1 rfl) (by simp)
    have q3 := st_sl v0 (st_part (st_op v2 (n := ret (.int 1)) rfl (f := dAdd) (d := .int ((p + 1 : Nat) : Int)) rfl)) (st_part v3) (d := .tup (((r.drop (p + 1)).take (k - 1)).map oD)) (by
      show some _ = some _
      rw [cut_mid _ _ _ (by omega) (by rw [List.length_map]; omega), List.map_take, List.map_drop]
      congr 3
      omega)
    have q5 := st_sl v0 (st_part (st_op v3 (n := ret (.int 1)) rfl (f := dAdd) (d := .int ((p + k + 1 : Nat) : Int)) rfl)) (mh := ret none) rfl (d := .tup ((r.drop (p + k + 1)).map oD)) (by
      show some _ = some _
      rw [cut_from, List.map_drop])
    have ad : ∀ a b : Row, a.length + b.length ≤ 4000 → dAdd (.tup (a.map oD)) (.tup (b.map oD)) = some (.tup ((a ++ b).map oD)) := fun a b h => by
      show (if _ then _ else _) = _
      rw [if_pos (by rw [List.length_map, List.length_map]; omega), List.map_append]
    refine st_op (st_op (st_op (st_op q1 tk (ad _ _ ?_)) q3 (ad _ _ ?_)) tk (ad _ _ ?_)) q5 (ad _ _ ?_) <;> simp only [List.length_append, List.length_take, List.length_drop, List.length_cons, List.length_nil] <;> omega
end Pf
end

section
set_option Elab.async false
set_option linter.all false
set_option maxRecDepth 100000
namespace Pf
open PySem PySem.Spec L2
theorem toP_row (r : Row) : toP (rowD r) = some (.tuple (r.map oP)) := by simp [rowD, toP, toPs_oD]
theorem toPs_rows : ∀ rs : List Row, toPs (rs.map rowD) = some (rs.map fun r => .tuple (r.map oP))
  | [] => by simp [toPs]
  | r :: rs => by simp only [List.map_cons, toPs, toP_row, toPs_rows rs]
theorem lay_rows : ∀ rs : List Row, PyData.canLayAll0 (rs.map fun r => .tuple (r.map oP)) = true ∧ PyData.depthAll (rs.map fun r => .tuple (r.map oP)) ≤ 1
  | [] => by simp [PyData.canLayAll0, PyData.depthAll]
  | r :: rs => by
    obtain ⟨h1, h2⟩ := lay_rows rs
    obtain ⟨h3, h4⟩ := lay_oP r
    refine ⟨by simp only [List.map_cons, PyData.canLayAll0, h1, h3, PyData.canLay0, Bool.and_self], ?_⟩
    simp only [List.map_cons, PyData.depthAll, PyData.depth, h4]
    exact Nat.max_le.mpr ⟨Nat.le_refl 1, h2⟩
theorem shaped_rows (rs : List Row) : SeqAt.shaped (.list (rs.map fun r => .tuple (r.map oP))) = true := by
  obtain ⟨h1, h2⟩ := lay_rows rs
  show (PyData.canLayAll0 _ && decide (PyData.depthAll _ + 1 ≤ 64)) = true
  rw [h1]
  exact decide_eq_true (by omega)
theorem dNe_nil (rs : List Row) : dNe (.lst (rs.map rowD)) (.lst []) = some (!rs.isEmpty) := by
  have t1 : toP (.lst (rs.map rowD)) = some (.list (rs.map fun r => .tuple (r.map oP))) := by simp [toP, toPs_rows]
  have t2 : toP (.lst []) = some (.list []) := by simp [toP, toPs]
  have e : dEq (.lst (rs.map rowD)) (.lst []) = some rs.isEmpty := by
    simp only [dEq, t1, t2, shaped_rows, show SeqAt.shaped (.list []) = true by decide, and_self, if_true, PyData.eqv]
    cases rs <;> simp [PyData.eqvAll]
  unfold dNe
  rw [e]; rfl
theorem fillS_len {r r' : Row} {k : Nat} (hk : 1 ≤ k) (h : fillS r k = some r') : r'.length = r.length := by
  unfold fillS at h
  split at h
  · cases h
  · rename_i p hp
    have hplt : p < r.length := (List.findIdx?_eq_some_iff_getElem.mp hp).1
    split at h
    · cases h
    · split at h
      · rename_i hg
        have hl := (List.getElem?_eq_some_iff.mp hg).1
        cases h
        simp only [List.length_append, List.length_take, List.length_drop, List.length_cons, List.length_nil]
        omega
      · cases h
def ups (n : Nat) : List Nat := (List.range n).map (· + 1)
def kids (n : Nat) (r : Row) : List Row := (ups n).filterMap (fillS r)
def loopR (n most : Nat) : Nat → List Row → List Row → Option (List Row)
  | 0, _, _ => none
  | _ + 1, [], fd => some fd
  | f + 1, r :: st, fd => if fd.length < most then (if r.any (· == none) = true then loopR n most f (kids n r ++ st) fd else loopR n most f st (fd ++ [r])) else some fd
def blankS (n : Nat) (hk : Bool) : Row := if hk = true then List.replicate (2 * n - 1) none ++ [some 0, none] else List.replicate (2 * n) none
def kindD (hk : Bool) : D := .str (if hk = true then "hooked" else "whole")
theorem replicate_flat (a : D) : ∀ n, (List.replicate n [a]).flatten = List.replicate n a
  | 0 => rfl
  | n + 1 => by rw [List.replicate_succ, List.flatten_cons, replicate_flat a n]; rfl
theorem down_ups (n : Nat) : downD (n : Nat) n = (ups n).reverse.map fun k => .int (k : Nat) := by
  unfold downD ups
  apply List.ext_getElem
  · simp
  · intro i h1 h2
    simp only [List.length_map, List.length_range] at h1
    simp only [List.getElem_map, List.getElem_range, List.getElem_reverse, List.length_map, List.length_range]
    congr 1
    omega
section
variable {S : DS} {n most : Nat} {kd : D}
abbrev rhoF (n most : Nat) (kd : D) (W F : List D) (s5 s6 : SD) : En := [.val (.int (n : Nat)), .val kd, .val (.int (most : Nat)), .own W, .own F, s5, s6, .no, .no]
abbrev loopT : M Bool := (mAndT (bn2 (mOwn 3) (mLst (ret [])) fun x y => lft (dNe x y)) (bn2 (mB1 (mOwn 4) dLen) (mVar 2) fun x y => lft (dLt x y)))
abbrev loopB : MS := (sSeq (sPop 3 (sSet 5))
  (sIf (bn2 (ret .non) (mVar 5) fun x y => lft (dNotIn x y)) (sApp 4 (mVar 5)) (sSeq (sE (mLc (mRngD (mVar 0) (ret (.int 0))) [7] (gpName 7) (ret true) (mCall 2 (mCons (mVar 5) (mCons (mVar 7) (ret []))) f_filled_first)) fun ds => sSet 6 (.lst ds))
  (sExt 3 (bnd (mLc (bnd (mVar 6) asL) [8] (gpName 8) (bn2 (mVar 8) (ret .non) fun x y => lft (dIsNot x y)) (mVar 8)) fun ds => ret (.lst ds))))))
theorem test_ok (W F : List Row) (s5 s6 : SD) : loopT (rhoF n most kd (W.map rowD) (F.map rowD) s5 s6) S = .ok (!W.isEmpty && decide (F.length < most)) S := by
  refine st_and (st_op (a := .lst (W.map rowD)) (b := .lst []) rfl rfl (dNe_nil W)) fun _ => ?_
  refine st_op (st_b1 (a := .lst (F.map rowD)) rfl rfl) (b := .int (most : Nat)) rfl ?_
  rw [d_lti, List.length_map]
  congr 1
  exact decide_eq_decide.mpr (by omega)
theorem pop_ok (W F : List Row) (r : Row) (s5 s6 : SD) : sPop 3 (sSet 5) (rhoF n most kd ((W ++ [r]).map rowD) (F.map rowD) s5 s6) S = .nx (rhoF n most kd (W.map rowD) (F.map rowD) (.val (rowD r)) s6) S := by
  rw [List.map_append]
  exact st_pop (d := rowD r) rfl
theorem kids_len {r : Row} {n : Nat} : (kids n r).length ≤ n := by
  unfold kids
  exact Nat.le_trans (List.length_filterMap_le _ _) (by simp [ups])
theorem body_full (W F : List Row) (r : Row) (s5 s6 : SD) (h : r.any (· == none) = false) (hF : F.length < 16777216) :
    loopB (rhoF n most kd ((W ++ [r]).map rowD) (F.map rowD) s5 s6) S = .nx (rhoF n most kd (W.map rowD) ((F ++ [r]).map rowD) (.val (rowD r)) s6) S := by
  refine (st_seq (pop_ok W F r s5 s6)).trans ?_
  have e := din_row none r
  rw [h] at e
  refine (st_if_t (S1 := S) (st_op (a := .non) (b := rowD r) rfl rfl (by unfold dNotIn; rw [show D.non = oD none from rfl, e]; rfl))).trans ?_
  rw [List.map_append]
  exact st_app (ds := F.map rowD) (d := rowD r) rfl rfl (by rw [List.length_map]; exact hF)
theorem body_kids (W F : List Row) (r : Row) (s5 s6 : SD) (h : r.any (· == none) = true) (hr : r.length ≤ 1000) (hW : W.length + n ≤ 16777216) (hs5 : True) :
    ∃ s6', loopB (rhoF n most kd ((W ++ [r]).map rowD) (F.map rowD) s5 s6) S = .nx (rhoF n most kd ((W ++ (kids n r).reverse).map rowD) (F.map rowD) (.val (rowD r)) s6') S := by
  have e := din_row none r
  rw [h] at e
  obtain ⟨p, hp⟩ : ∃ p, r.findIdx? (· == none) = some p := by
    rw [← Option.isSome_iff_exists, List.findIdx?_isSome]; exact h
  refine ⟨.val (.lst ((ups n).reverse.map fun k => optD (fillS r k))), ?_⟩
  refine (st_seq (pop_ok W F r s5 s6)).trans ?_
  refine (st_if_f (S1 := S) (st_op (a := .non) (b := rowD r) rfl rfl (by unfold dNotIn; rw [show D.non = oD none from rfl, e]; rfl))).trans ?_
  have hb : (big (n : Int) && big 0) = true := by
    unfold big
    simp only [Bool.and_eq_true, decide_eq_true_eq]
    omega
  have hi : mRngD (mVar 0) (ret (.int 0)) (rhoF n most kd (W.map rowD) (F.map rowD) (.val (rowD r)) s6) S = .ok ((ups n).reverse.map fun k => .int (k : Nat)) S := by
    rw [← down_ups]
    refine (st_bn2 (a := D.int (n : Nat)) (b := D.int 0) rfl rfl).trans ?_
    dsimp only
    rw [if_pos hb]
    show Res.ok _ _ = _
    congr 2
  have hlc := lc_ok (ρ := rhoF n most kd (W.map rowD) (F.map rowD) (.val (rowD r)) s6) (S := S) (vs := [7]) (g := gpName 7) (tt := ret true) (te := mCall 2 (mCons (mVar 5) (mCons (mVar 7) (ret []))) f_filled_first)
    (fun k : Nat => D.int (k : Nat)) (fun _ => true) (fun k => optD (fillS r k)) (fun k => [.val (.int (n : Nat)), .val kd, .val (.int (most : Nat)), .own (W.map rowD), .own (F.map rowD), .val (rowD r), s6, .val (.int (k : Nat)), .no]) (ups n).reverse fun k hk => ⟨rfl, rfl, fun _ => by
      refine (st_call (ds := [rowD r, .int (k : Nat)]) (S1 := S) rfl rfl).trans (filled_ok hp ?_ hr S)
      simp only [ups, List.mem_reverse, List.mem_map, List.mem_range] at hk
      omega⟩
  rw [List.filter_eq_self.mpr (fun _ _ => rfl)] at hlc
  refine (st_seq (st_sE (st_lc hi (by simp [ups]; omega) rfl hlc))).trans ?_
  show sExt 3 _ (rhoF n most kd (W.map rowD) (F.map rowD) (.val (rowD r)) (.val (.lst ((ups n).reverse.map fun k => optD (fillS r k))))) S = _
  have hlc2 := lc_ok (ρ := rhoF n most kd (W.map rowD) (F.map rowD) (.val (rowD r)) (.val (.lst ((ups n).reverse.map fun k => optD (fillS r k))))) (S := S) (vs := [8]) (g := gpName 8) (tt := bn2 (mVar 8) (ret .non) fun x y => lft (dIsNot x y)) (te := mVar 8)
    (fun k : Nat => optD (fillS r k)) (fun k => (fillS r k).isSome) (fun k => optD (fillS r k)) (fun k => [.val (.int (n : Nat)), .val kd, .val (.int (most : Nat)), .own (W.map rowD), .own (F.map rowD), .val (rowD r), .val (.lst ((ups n).reverse.map fun k => optD (fillS r k))), .no, .val (optD (fillS r k))]) (ups n).reverse fun k hk => ⟨rfl, st_op (a := optD (fillS r k)) (b := .non) rfl rfl (by cases fillS r k <;> rfl), fun _ => rfl⟩
  have hk2 : (((ups n).reverse.filter fun k => (fillS r k).isSome).map fun k => optD (fillS r k)) = (kids n r).reverse.map rowD := by
    unfold kids
    rw [← List.filterMap_reverse]
    generalize (ups n).reverse = l
    induction l with
    | nil => rfl
    | cons k l ih =>
      cases hf : fillS r k with
      | none => rw [List.filter_cons_of_neg (by rw [hf]; decide), List.filterMap_cons_none hf, ih]
      | some r' => rw [List.filter_cons_of_pos (by rw [hf]; rfl), List.filterMap_cons_some hf, List.map_cons, List.map_cons, ih, hf]; rfl
  rw [hk2] at hlc2
  have hm := st_lc (mi := bnd (mVar 6) asL) (ρ := rhoF n most kd (W.map rowD) (F.map rowD) (.val (rowD r)) (.val (.lst ((ups n).reverse.map fun k => optD (fillS r k))))) (S := S) (S1 := S) rfl (by simp [ups]; omega) rfl hlc2
  have hkl := kids_len (r := r) (n := n)
  rw [List.map_append]
  exact st_ext (S1 := S) (i := 3) (ds := W.map rowD) (es := (kids n r).reverse.map rowD) rfl (st_bnd (f := fun ds => ret (D.lst ds)) hm) (by simp only [List.length_map, List.length_reverse]; omega)
theorem loop_ok : ∀ (f : Nat) (st fd : List Row) (N : Nat) (s5 s6 : SD) (res : List Row), loopR n most f st fd = some res → f ≤ N → st.length + f * n ≤ 16000000 → fd.length + f ≤ 16000000 → (∀ r ∈ st, r.length ≤ 1000) →
    ∃ W s5' s6', whileN loopT loopB N (rhoF n most kd (st.reverse.map rowD) (fd.map rowD) s5 s6) S = .nx (rhoF n most kd W (res.map rowD) s5' s6') S
  | 0, _, _, _, _, _, _, h, _, _, _, _ => by cases h
  | f + 1, st, fd, 0, _, _, _, _, hN, _, _, _ => absurd hN (by omega)
  | f + 1, [], fd, N + 1, s5, s6, res, h, hN, h1, h2, h3 => by
    cases h
    refine ⟨[], s5, s6, ?_⟩
    exact st_while_f (test_ok (S := S) (n := n) (most := most) (kd := kd) [] fd s5 s6)
  | f + 1, r :: st, fd, N + 1, s5, s6, res, h, hN, h1, h2, h3 => by
    unfold loopR at h
    have t := test_ok (S := S) (n := n) (most := most) (kd := kd) (st.reverse ++ [r]) fd s5 s6
    have hne : (st.reverse ++ [r]).isEmpty = false := by simp
    rw [hne] at t
    rw [List.reverse_cons]
    have hexp : (f + 1) * n = f * n + n := Nat.succ_mul f n
    rw [hexp, List.length_cons] at h1
    by_cases hm : fd.length < most
    · rw [if_pos hm] at h
      rw [decide_eq_true hm] at t
      by_cases ha : r.any (· == none) = true
      · rw [if_pos ha] at h
        obtain ⟨s6', hb⟩ := body_kids (S := S) (n := n) (most := most) (kd := kd) st.reverse fd r s5 s6 ha (h3 r List.mem_cons_self) (by rw [List.length_reverse]; omega) trivial
        rw [st_while_t t hb, ← List.reverse_append]
        have hkl := kids_len (r := r) (n := n)
        refine loop_ok f (kids n r ++ st) fd N _ _ res h (by omega) (by rw [List.length_append]; omega) (by omega) fun r' hr' => ?_
        rcases List.mem_append.mp hr' with hr' | hr'
        · obtain ⟨k, hk, e⟩ := List.mem_filterMap.mp hr'
          simp only [ups, List.mem_map, List.mem_range] at hk
          rw [fillS_len (by omega) e]
          exact h3 r List.mem_cons_self
        · exact h3 r' (List.mem_cons_of_mem _ hr')
      · rw [if_neg ha] at h
        rw [Bool.not_eq_true] at ha
        rw [st_while_t t (body_full st.reverse fd r s5 s6 ha (by omega))]
        exact loop_ok f st (fd ++ [r]) N _ _ res h (by omega) (by omega) (by rw [List.length_append, List.length_cons, List.length_nil]; omega) fun r' hr' => h3 r' (List.mem_cons_of_mem _ hr')
    · rw [if_neg hm] at h
      cases h
      rw [decide_eq_false hm] at t
      exact ⟨_, _, _, st_while_f t⟩
theorem blank_ok {n : Nat} {hk : Bool} (hn : 1 ≤ n ∧ n ≤ 8) (S : DS) : f_blank_row [.int (n : Nat), kindD hk] S = .ok (rowD (blankS n hk)) S := by
  match n, hn, hk with
  | 1, _, true => rfl
  | 1, _, false => rfl
  | 2, _, true => rfl
  | 2, _, false => rfl
  | 3, _, true => rfl
  | 3, _, false => rfl
  | 4, _, true => rfl
  | 4, _, false => rfl
  | 5, _, true => rfl
  | 5, _, false => rfl
  | 6, _, true => rfl
  | 6, _, false => rfl
  | 7, _, true => rfl
  | 7, _, false => rfl
  | 8, _, true => rfl
  | 8, _, false => rfl
  | 0, h, _ => exact absurd h.1 (by decide)
  | n + 9, h, _ => exact absurd h.2 (by omega)
/-- the rows found: as a plain list -/
theorem rows_found_ok {n most f : Nat} {hk : Bool} {res : List Row} {S : DS} (h : loopR n most f [blankS n hk] [] = some res) (hn : 1 ≤ n ∧ n ≤ 8) (hf : f ≤ 100000) :
    f_rows_found [.int (n : Nat), kindD hk, .int (most : Nat)] S = .ok (.lst (res.map rowD)) S := by
  refine runFn_rt (ρ := [.val (.int (n : Nat)), .val (kindD hk), .val (.int (most : Nat)), .no, .no, .no, .no, .no, .no]) rfl ?_
  generalize hρ : [SD.val (.int (n : Nat)), .val (kindD hk), .val (.int (most : Nat)), .no, .no, .no, .no, .no, .no] = ρ
  have hb : mCall 2 (mCons (mVar 0) (mCons (mVar 1) (ret []))) f_blank_row ρ S = .ok (rowD (blankS n hk)) S :=
    (st_call (ds := [.int (n : Nat), kindD hk]) (S1 := S) (by subst hρ; rfl) rfl).trans (blank_ok hn S)
  have h1 : mOwnL (bnd (mCons (mCall 2 (mCons (mVar 0) (mCons (mVar 1) (ret []))) f_blank_row) (ret [])) fun ds => if ds.length ≤ 1000 then ret ds else bad) ρ S = .ok (.own [rowD (blankS n hk)]) S := by
    refine (st_bnd (a := [rowD (blankS n hk)]) (S1 := S) ((st_bnd (st_cons hb rfl)).trans rfl)).trans rfl
  have h2 : mOwnL (bnd (ret []) fun ds => if ds.length ≤ 1000 then ret ds else bad) ρ S = .ok (.own []) S := rfl
  refine (st_seq (st_two h1 h2 (by subst hρ; simp))).trans ?_
  obtain ⟨W, s5, s6, hw⟩ := loop_ok (S := S) (n := n) (most := most) (kd := kindD hk) f [blankS n hk] [] 1000000000 .no .no res h (by omega) (by
    have : f * n ≤ 100000 * 8 := Nat.mul_le_mul hf hn.2
    simp only [List.length_cons, List.length_nil]; omega) (by simp only [List.length_nil]; omega) (fun r hr => by
      rw [List.mem_singleton.mp hr]
      unfold blankS
      cases hk <;> simp <;> omega)
  subst hρ
  refine (st_seq (b := sE (mOwn 4) sRt) hw).trans ?_
  exact st_rt (m := mOwn 4) rfl
end
end Pf
end

section
set_option Elab.async false
set_option linter.all false
set_option maxRecDepth 100000
namespace Pf
/-! ### the two laws of a row of gaps agree -/
def pl (z : Int) : Nat → List Int → List Nat
  | _, [] => []
  | i, x :: xs => if x = z then i :: pl z (i + 1) xs else pl z (i + 1) xs
theorem pl_len (z : Int) : ∀ (i : Nat) (xs : List Int), (pl z i xs).length = xs.count z
  | _, [] => rfl
  | i, x :: xs => by
    unfold pl
    by_cases e : x = z
    · rw [if_pos e, List.length_cons, pl_len z (i + 1) xs, e, List.count_cons_self]
    · rw [if_neg e, pl_len z (i + 1) xs, List.count_cons_of_ne e]
theorem pl_ge (z : Int) : ∀ (i : Nat) (xs : List Int), ∀ p ∈ pl z i xs, i ≤ p ∧ xs[p - i]? = some z
  | _, [], p, h => by cases h
  | i, x :: xs, p, h => by
    unfold pl at h
    have tl : p ∈ pl z (i + 1) xs → i ≤ p ∧ (x :: xs)[p - i]? = some z := fun h => by
      obtain ⟨h1, h2⟩ := pl_ge z (i + 1) xs p h
      refine ⟨by omega, ?_⟩
      rw [show p - i = (p - (i + 1)) + 1 by omega, List.getElem?_cons_succ]
      exact h2
    split at h
    · rename_i e
      rcases List.mem_cons.mp h with h | h
      · subst h; exact ⟨Nat.le_refl _, by rw [Nat.sub_self, e]; rfl⟩
      · exact tl h
    · exact tl h
theorem pl_lt (z : Int) : ∀ (i : Nat) (xs : List Int), (pl z i xs).Pairwise (· < ·)
  | _, [] => List.Pairwise.nil
  | i, x :: xs => by
    unfold pl
    split
    · exact List.Pairwise.cons (fun p hp => (pl_ge z (i + 1) xs p hp).1) (pl_lt z (i + 1) xs)
    · exact pl_lt z (i + 1) xs
theorem pl_append (z : Int) : ∀ (i : Nat) (xs ys : List Int), pl z i (xs ++ ys) = pl z i xs ++ pl z (i + xs.length) ys
  | _, [], _ => rfl
  | i, x :: xs, ys => by
    show (if x = z then i :: pl z (i + 1) (xs ++ ys) else pl z (i + 1) (xs ++ ys)) = (if x = z then i :: pl z (i + 1) xs else pl z (i + 1) xs) ++ pl z (i + (xs.length + 1)) ys
    rw [pl_append z (i + 1) xs ys, show i + 1 + xs.length = i + (xs.length + 1) by omega]
    split <;> rfl
theorem pl_none {z : Int} {i : Nat} {xs : List Int} (h : z ∉ xs) : pl z i xs = [] := List.eq_nil_of_length_eq_zero (by rw [pl_len, List.count_eq_zero]; exact h)
theorem pl_nil {z : Int} {i : Nat} {xs : List Int} : pl z i xs = [] ↔ z ∉ xs := ⟨fun h => by rw [← List.count_eq_zero, ← pl_len z i, h]; rfl, pl_none⟩
/-- how many of 1..n -/
def cnts (n : Nat) (zs : List Int) : Nat := match n with
  | 0 => 0
  | n + 1 => cnts n zs + zs.count ((n + 1 : Nat) : Int)
def inR (n : Nat) (z : Int) : Bool := decide (1 ≤ z) && decide (z ≤ n)
theorem cnts_eq : ∀ (n : Nat) (zs : List Int), cnts n zs = zs.countP (inR n)
  | 0, zs => by
    symm
    rw [cnts, List.countP_eq_zero]
    intro z _ h
    simp only [inR, Bool.and_eq_true, decide_eq_true_eq] at h
    omega
  | n + 1, zs => by
    unfold cnts
    rw [cnts_eq n zs]
    induction zs with
    | nil => rfl
    | cons z zs ih =>
      rw [List.countP_cons, List.countP_cons, List.count_cons]
      have e : (if inR (n + 1) z = true then 1 else 0) = (if inR n z = true then 1 else 0) + (if (z == ((n + 1 : Nat) : Int)) = true then 1 else 0) := by
        simp only [inR, Bool.and_eq_true, decide_eq_true_eq, beq_iff_eq]
        by_cases h1 : 1 ≤ z ∧ z ≤ ((n : Nat) : Int)
        · rw [if_pos (by omega), if_pos h1, if_neg (by omega)]
        · rw [if_neg h1]
          by_cases h2 : z = ((n + 1 : Nat) : Int)
          · rw [if_pos (by omega), if_pos h2]
          · rw [if_neg (by omega), if_neg h2]
      omega
theorem cnts_two {zs : List Int} : ∀ n, (∀ k : Nat, 1 ≤ k → k ≤ n → zs.count (k : Int) = 2) → cnts n zs = 2 * n
  | 0, _ => rfl
  | n + 1, h => by
    unfold cnts
    rw [cnts_two n fun k h1 h2 => h k h1 (by omega), h (n + 1) (by omega) (Nat.le_refl _)]
    omega
theorem cnts_ge {zs : List Int} : ∀ n, (∀ k : Nat, 1 ≤ k → k ≤ n → 2 ≤ zs.count (k : Int)) → 2 * n ≤ cnts n zs ∧ (cnts n zs = 2 * n → ∀ k : Nat, 1 ≤ k → k ≤ n → zs.count (k : Int) = 2)
  | 0, _ => ⟨Nat.le_refl _, fun _ k h1 h2 => by omega⟩
  | n + 1, h => by
    obtain ⟨g1, g2⟩ := cnts_ge n fun k h1 h2 => h k h1 (by omega)
    have g3 := h (n + 1) (by omega) (Nat.le_refl _)
    unfold cnts
    refine ⟨by omega, fun e k h1 h2 => ?_⟩
    by_cases hk : k = n + 1
    · subst hk; omega
    · exact g2 (by omega) k h1 (by omega)
theorem nodup_le {α : Type} [DecidableEq α] : ∀ {l m : List α}, l.Nodup → (∀ a ∈ l, a ∈ m) → l.length ≤ m.length
  | [], _, _, _ => Nat.zero_le _
  | a :: l, m, h, s => by
    have h1 := List.nodup_cons.mp h
    have h2 := nodup_le (l := l) (m := m.erase a) h1.2 fun b hb => (List.mem_erase_of_ne fun e => h1.1 (by rw [← e]; exact hb)).mpr (s b (List.mem_cons_of_mem _ hb))
    have h3 := s a List.mem_cons_self
    have h4 := List.length_erase_of_mem h3
    have h5 := List.length_pos_of_mem h3
    rw [List.length_cons]
    omega
/-- as many as there are: all of them -/
theorem nodup_all {α : Type} [DecidableEq α] {l m : List α} (h : l.Nodup) (s : ∀ a ∈ l, a ∈ m) (e : m.length ≤ l.length) : ∀ a ∈ m, a ∈ l := fun a ha => by
  by_cases q : a ∈ l
  · exact q
  · have h1 := nodup_le (l := l) (m := m.erase a) h fun b hb => (List.mem_erase_of_ne fun e => q (by rw [← e]; exact hb)).mpr (s b hb)
    have h4 := List.length_erase_of_mem ha
    have h5 := List.length_pos_of_mem ha
    omega
def sizeS (n : Nat) (hk : Bool) : Nat := if hk = true then 2 * n + 1 else 2 * n
def gapK (zs : List Int) (k : Nat) : Bool := match pl (k : Int) 0 zs with
  | [p, q] => decide (q = p + k)
  | _ => false
def rowB (n : Nat) (hk : Bool) (zs : List Int) : Bool := decide (zs.length = sizeS n hk) && (!hk || decide (zs[2 * n - 1]? = some 0)) && (ups n).all (gapK zs)
def lastFirst (zs : List Int) (z : Int) : Bool := match (pl z 0 zs).head?, (pl z 0 zs).getLast? with
  | some p, some q => decide ((q : Int) - (p : Int) = z)
  | _, _ => false
def gapB (n : Nat) (hk : Bool) (zs keys : List Int) : Bool := decide (zs.length = sizeS n hk) && zs.all (fun z => decide (0 ≤ z) && decide (z ≤ n)) &&
  (if hk = true then decide ((pl 0 0 zs).head? = some (2 * n - 1)) && decide ((pl 0 0 zs).getLast? = some (2 * n - 1)) else decide (pl 0 0 zs = [])) &&
  decide (keys.length = n + sizeS n hk - 2 * n) && keys.all (lastFirst zs)
theorem gapK_iff {zs : List Int} {k : Nat} : gapK zs k = true ↔ ∃ p q, pl (k : Int) 0 zs = [p, q] ∧ q = p + k := by
  unfold gapK
  constructor
  · intro h
    split at h
    · rename_i p q e; exact ⟨p, q, e, of_decide_eq_true h⟩
    · cases h
  · rintro ⟨p, q, e, rfl⟩
    rw [e]
    exact decide_eq_true rfl
theorem lastFirst_iff {zs : List Int} {z : Int} : lastFirst zs z = true ↔ ∃ p q : Nat, (pl z 0 zs).head? = some p ∧ (pl z 0 zs).getLast? = some q ∧ (q : Int) - p = z := by
  unfold lastFirst
  constructor
  · intro h
    split at h
    · rename_i p q e1 e2; exact ⟨p, q, e1, e2, of_decide_eq_true h⟩
    · cases h
  · rintro ⟨p, q, e1, e2, h⟩
    rw [e1, e2]
    exact decide_eq_true h
theorem ups_mem {n k : Nat} : k ∈ ups n ↔ 1 ≤ k ∧ k ≤ n := by
  simp only [ups, List.mem_map, List.mem_range]
  constructor
  · rintro ⟨a, h, rfl⟩; omega
  · rintro ⟨h1, h2⟩; exact ⟨k - 1, by omega, by omega⟩
theorem row_gap {n : Nat} {hk : Bool} {zs keys : List Int} (hn : 1 ≤ n) (hm : ∀ z, z ∈ keys ↔ z ∈ zs) (hd : keys.Nodup) : rowB n hk zs = gapB n hk zs keys := by
  rw [Bool.eq_iff_iff]
  unfold rowB gapB
  simp only [Bool.and_eq_true, decide_eq_true_eq, List.all_eq_true, Bool.or_eq_true, Bool.not_eq_true', gapK_iff, ups_mem]
  have hups : (List.map (fun k : Nat => (k : Int)) (ups n)).length = n := by simp [ups]
  have hupsN : (List.map (fun k : Nat => (k : Int)) (ups n)).Nodup := by
    refine List.pairwise_map.mpr ?_
    unfold ups
    exact List.pairwise_map.mpr (List.Pairwise.imp (fun h e => h (by omega)) List.nodup_range)
  have mU : ∀ z : Int, z ∈ List.map (fun k : Nat => (k : Int)) (ups n) ↔ 1 ≤ z ∧ z ≤ n := fun z => by
    rw [List.mem_map]
    constructor
    · rintro ⟨k, hk, rfl⟩
      have := ups_mem.mp hk
      omega
    · rintro ⟨h1, h2⟩
      exact ⟨z.toNat, ups_mem.mpr ⟨by omega, by omega⟩, by omega⟩
  constructor
  · rintro ⟨⟨hl, h0⟩, hg⟩
    have cnt2 : ∀ k : Nat, 1 ≤ k → k ≤ n → zs.count (k : Int) = 2 := fun k h1 h2 => by
      obtain ⟨p, q, e, _⟩ := hg k ⟨h1, h2⟩
      rw [← pl_len _ 0, e]; rfl
    have tot : zs.countP (inR n) = 2 * n := by rw [← cnts_eq, cnts_two n cnt2]
    have lf : ∀ z : Int, 1 ≤ z → z ≤ n → lastFirst zs z = true := fun z h1 h2 => by
      obtain ⟨p, q, e, e2⟩ := hg z.toNat ⟨by omega, by omega⟩
      rw [show ((z.toNat : Nat) : Int) = z by omega] at e
      exact lastFirst_iff.mpr ⟨p, q, by rw [e]; rfl, by rw [e]; rfl, by omega⟩
    have inz : ∀ z : Int, 1 ≤ z → z ≤ n → z ∈ zs := fun z h1 h2 => by
      have := cnt2 z.toNat (by omega) (by omega)
      rw [show ((z.toNat : Nat) : Int) = z by omega] at this
      exact List.count_pos_iff.mp (by omega)
    cases hk with
    | false =>
      have hl' : zs.length = 2 * n := hl
      have all : ∀ z ∈ zs, inR n z = true := List.countP_eq_length.mp (by omega)
      have all' : ∀ z ∈ zs, 1 ≤ z ∧ z ≤ n := fun z hz => by
        have := all z hz
        simp only [inR, Bool.and_eq_true, decide_eq_true_eq] at this
        exact this
      refine ⟨⟨⟨⟨hl, fun z hz => by have := all' z hz; omega⟩, ?_⟩, ?_⟩, fun z hz => lf z (all' z ((hm z).mp hz)).1 (all' z ((hm z).mp hz)).2⟩
      · rw [if_neg Bool.false_ne_true]
        exact decide_eq_true (pl_none fun h => by have := all' 0 h; omega)
      · have a1 := nodup_le hd (m := List.map (fun k : Nat => (k : Int)) (ups n)) fun z hz => (mU z).mpr (all' z ((hm z).mp hz))
        have a2 := nodup_le hupsN (m := keys) fun z hz => (hm z).mpr (inz z ((mU z).mp hz).1 ((mU z).mp hz).2)
        show keys.length = n + 2 * n - 2 * n
        omega
    | true =>
      have hl' : zs.length = 2 * n + 1 := hl
      have h0' : zs[2 * n - 1]? = some 0 := by
        rcases h0 with h | h
        · cases h
        · exact h
      have hlt : 2 * n - 1 < zs.length := by omega
      have z0 : zs[2 * n - 1] = 0 := by rw [List.getElem?_eq_getElem hlt] at h0'; exact Option.some.inj h0'
      have split : zs = zs.take (2 * n - 1) ++ 0 :: zs.drop (2 * n - 1 + 1) := by
        conv => lhs; rw [← List.take_append_drop (2 * n - 1) zs, List.drop_eq_getElem_cons hlt, z0]
      generalize ha : zs.take (2 * n - 1) = as at split
      generalize hb : zs.drop (2 * n - 1 + 1) = bs at split
      have la : as.length = 2 * n - 1 := by rw [← ha, List.length_take]; omega
      have lb : bs.length = 1 := by rw [← hb, List.length_drop]; omega
      have tot2 := tot
      rw [split, List.countP_append, List.countP_cons_of_neg (by simp [inR])] at tot2
      have c1 := List.countP_le_length (p := inR n) (l := as)
      have c2 := List.countP_le_length (p := inR n) (l := bs)
      have alla : ∀ z ∈ as, inR n z = true := List.countP_eq_length.mp (by omega)
      have allb : ∀ z ∈ bs, inR n z = true := List.countP_eq_length.mp (by omega)
      have in' : ∀ z, inR n z = true → 1 ≤ z ∧ z ≤ n := fun z h => by
        simp only [inR, Bool.and_eq_true, decide_eq_true_eq] at h
        exact h
      have all' : ∀ z ∈ zs, z = 0 ∨ (1 ≤ z ∧ z ≤ n) := fun z hz => by
        rw [split] at hz
        rcases List.mem_append.mp hz with h | h
        · exact .inr (in' z (alla z h))
        · rcases List.mem_cons.mp h with h | h
          · exact .inl h
          · exact .inr (in' z (allb z h))
      have p0 : pl 0 0 zs = [2 * n - 1] := by
        rw [split, pl_append, pl_none fun h => by have := in' 0 (alla 0 h); omega]
        unfold pl
        rw [if_pos rfl, pl_none fun h => by have := in' 0 (allb 0 h); omega, la, Nat.zero_add]
        rfl
      refine ⟨⟨⟨⟨hl, fun z hz => by rcases all' z hz with h | h <;> omega⟩, ?_⟩, ?_⟩, fun z hz => ?_⟩
      · rw [if_pos rfl, p0]
        simp
      · have a1 := nodup_le hd (m := 0 :: List.map (fun k : Nat => (k : Int)) (ups n)) fun z hz => by
          rcases all' z ((hm z).mp hz) with h | h
          · rw [h]; exact List.mem_cons_self
          · exact List.mem_cons_of_mem _ ((mU z).mpr h)
        have a2 := nodup_le (l := 0 :: List.map (fun k : Nat => (k : Int)) (ups n)) (List.nodup_cons.mpr ⟨fun h => by have := (mU 0).mp h; omega, hupsN⟩) (m := keys) fun z hz => by
          rcases List.mem_cons.mp hz with h | h
          · rw [h]; exact (hm 0).mpr (by rw [split]; exact List.mem_append_right _ List.mem_cons_self)
          · exact (hm z).mpr (inz z ((mU z).mp h).1 ((mU z).mp h).2)
        rw [List.length_cons] at a1 a2
        show keys.length = n + (2 * n + 1) - 2 * n
        omega
      · rcases all' z ((hm z).mp hz) with h | h
        · subst h
          exact lastFirst_iff.mpr ⟨2 * n - 1, 2 * n - 1, by rw [p0]; rfl, by rw [p0]; rfl, by omega⟩
        · exact lf z h.1 h.2
  · rintro ⟨⟨⟨⟨hl, hr⟩, h0⟩, hc⟩, hlf⟩
    -- the places of one that stands twice at least
    have two : ∀ k : Nat, 1 ≤ k → k ≤ n → (k : Int) ∈ keys → 2 ≤ zs.count (k : Int) := fun k h1 h2 hin => by
      obtain ⟨p, q, e1, e2, e3⟩ := lastFirst_iff.mp (hlf _ hin)
      rw [← pl_len _ 0]
      match hp : pl (k : Int) 0 zs with
      | [] => rw [hp] at e1; cases e1
      | [a] =>
        rw [hp] at e1 e2
        have e1' : a = p := Option.some.inj e1
        have e2' : a = q := Option.some.inj e2
        omega
      | a :: b :: r => simp
    have fin : (∀ k : Nat, 1 ≤ k → k ≤ n → (k : Int) ∈ keys) → zs.countP (inR n) = 2 * n → ∀ k : Nat, 1 ≤ k ∧ k ≤ n → ∃ p q, pl (k : Int) 0 zs = [p, q] ∧ q = p + k := fun hin ht k hk => by
      have c := (cnts_ge n fun k h1 h2 => two k h1 h2 (hin k h1 h2)).2 (by rw [cnts_eq, ht]) k hk.1 hk.2
      obtain ⟨p, q, e1, e2, e3⟩ := lastFirst_iff.mp (hlf _ (hin k hk.1 hk.2))
      rw [← pl_len _ 0] at c
      match hp : pl (k : Int) 0 zs with
      | [] => rw [hp] at c; cases c
      | [a] => rw [hp] at c; cases c
      | [a, b] =>
        rw [hp] at e1 e2
        have e1' : a = p := Option.some.inj e1
        have e2' : b = q := Option.some.inj e2
        exact ⟨a, b, rfl, by omega⟩
      | a :: b :: d :: r => rw [hp] at c; simp at c
    cases hk with
    | false =>
      have hl' : zs.length = 2 * n := hl
      rw [if_neg Bool.false_ne_true] at h0
      have no0 : (0 : Int) ∉ zs := pl_nil.mp (of_decide_eq_true h0)
      have rng : ∀ z ∈ zs, 1 ≤ z ∧ z ≤ n := fun z hz => by
        have := hr z hz
        by_cases e : z = 0
        · exact (no0 (e ▸ hz)).elim
        · omega
      have hc' : keys.length = n + 2 * n - 2 * n := hc
      have hin : ∀ k : Nat, 1 ≤ k → k ≤ n → (k : Int) ∈ keys := fun k h1 h2 => nodup_all hd (m := List.map (fun k : Nat => (k : Int)) (ups n)) (fun z hz => (mU z).mpr (rng z ((hm z).mp hz))) (by omega) _ ((mU _).mpr (by omega))
      refine ⟨⟨hl, .inl rfl⟩, fin hin ?_⟩
      rw [List.countP_eq_length.mpr fun z hz => by have := rng z hz; simp [inR, this], hl']
    | true =>
      have hl' : zs.length = 2 * n + 1 := hl
      rw [if_pos rfl, Bool.and_eq_true, decide_eq_true_eq, decide_eq_true_eq] at h0
      have p0 : pl 0 0 zs = [2 * n - 1] := by
        have w := pl_lt 0 0 zs
        match hp : pl 0 0 zs with
        | [] => rw [hp] at h0; cases h0.1
        | [a] => rw [hp] at h0; cases h0.1; rfl
        | a :: b :: r =>
          rw [hp] at h0 w
          have e1 : a = 2 * n - 1 := Option.some.inj h0.1
          have e2 : (b :: r).getLast? = some (2 * n - 1) := by rw [← h0.2, List.getLast?_cons_cons]
          have e3 := List.mem_of_getLast? e2
          have := (List.pairwise_cons.mp w).1 _ e3
          omega
      have z0 : zs[2 * n - 1]? = some 0 := by
        have := pl_ge 0 0 zs (2 * n - 1) (by rw [p0]; exact List.mem_cons_self)
        exact this.2
      have c0 : zs.count 0 = 1 := by rw [← pl_len 0 0, p0]; rfl
      have hc' : keys.length = n + (2 * n + 1) - 2 * n := hc
      have hin : ∀ k : Nat, 1 ≤ k → k ≤ n → (k : Int) ∈ keys := fun k h1 h2 => nodup_all hd (m := 0 :: List.map (fun k : Nat => (k : Int)) (ups n)) (fun z hz => by
        have := hr z ((hm z).mp hz)
        by_cases e : z = 0
        · rw [e]; exact List.mem_cons_self
        · exact List.mem_cons_of_mem _ ((mU z).mpr (by omega))) (by rw [List.length_cons]; omega) _ (List.mem_cons_of_mem _ ((mU _).mpr (by omega)))
      refine ⟨⟨hl, .inr z0⟩, fin hin ?_⟩
      have e : ∀ l : List Int, (∀ z ∈ l, 0 ≤ z ∧ z ≤ n) → l.countP (inR n) + l.count 0 = l.length := fun l => by
        induction l with
        | nil => exact fun _ => rfl
        | cons z l ih =>
          intro h
          have h1 := ih fun z hz => h z (List.mem_cons_of_mem _ hz)
          have h2 := h z List.mem_cons_self
          rw [List.countP_cons, List.count_cons, List.length_cons]
          by_cases e : z = 0
          · subst e; simp [inR]; omega
          · have : inR n z = true := by simp [inR]; omega
            rw [if_pos this, if_neg (by simpa using e)]
            omega
      have := e zs hr
      omega
end Pf
end

section
set_option Elab.async false
set_option linter.all false
set_option maxRecDepth 100000
namespace Pf
open PySem PySem.Spec L2
/-! ### what an entry may be -/
def entB : D → Bool
  | .non => true
  | .bl _ => true
  | .int _ => true
  | .str _ => true
  | .tup _ => true
  | _ => false
def wI : D → Option Int
  | .int i => some i
  | _ => none
theorem is_whole_ok {d : D} (h : entB d = true) (S : DS) : f_is_whole [d] S = .ok (.bl (wI d).isSome) S := by
  cases d <;> first | rfl | cases h
theorem is_number_ok {d : D} (h : entB d = true) (n : Nat) (S : DS) : f__law_is_number [d, .int 0, .int (n : Nat)] S = .ok (.bl (match wI d with | some z => decide (0 ≤ z) && decide (z ≤ n) | none => false)) S := by
  cases d with
  | int z =>
    refine runFn_rt (ρ := [.val (.int z), .val (.int 0), .val (.int (n : Nat))]) rfl (st_rt ?_)
    refine st_andD (k := true) rfl (fun _ => st_andD (k := true) rfl (fun _ => ?_) (fun h => by cases h)) (fun h => by cases h)
    refine (st_bnd (a := decide (0 ≤ z) && decide (z ≤ n)) (S1 := S) ?_).trans rfl
    rw [ev_chain]
    refine (st_bnd (a := D.int 0) (S1 := S) rfl).trans ?_
    refine (st_bnd (a := D.int z) (S1 := S) rfl).trans ?_
    refine (st_bnd (a := decide (0 ≤ z)) (S1 := S) rfl).trans ?_
    cases decide (0 ≤ z) <;> rfl
  | _ => first | rfl | cases h
theorem dmul2 (n : Nat) : dMul (.int 2) (.int (n : Nat)) = some (.int ((2 * n : Nat) : Int)) := by
  rw [d_mul, if_pos (.inl (by decide))]
  congr 2
theorem kind_whole (hk : Bool) : dEq (kindD hk) (.str "whole") = some (!hk) := by cases hk <;> decide
theorem kind_hooked (hk : Bool) : dEq (kindD hk) (.str "hooked") = some hk := by cases hk <;> decide
def okLen (v : D) : Option (List D) := match v with
  | .tup es => some es
  | _ => none
/-- the law of a row -/
def rowV (n : Nat) (hk : Bool) (v : D) : Bool := match v with
  | .tup es => match intsD es with
    | some zs => rowB n hk zs
    | none => false
  | _ => false
theorem ints_all : ∀ es : List D, (intsD es).isSome = es.all (fun d => (wI d).isSome)
  | [] => rfl
  | d :: es => by
    cases d <;> simp [intsD, wI, ints_all es]
theorem ints_map : ∀ {es : List D} {zs : List Int}, intsD es = some zs → es = zs.map D.int
  | [], zs, h => by cases h; rfl
  | d :: es, zs, h => by
    cases d <;> simp only [intsD] at h <;> try (cases h)
    simp only [Option.map_eq_some_iff] at h
    obtain ⟨ms, e, rfl⟩ := h
    rw [List.map_cons, ints_map e]
theorem bools_map {α : Type} (f : α → Bool) : ∀ l : List α, bools (l.map fun a => .bl (f a)) = some (l.map f)
  | [] => rfl
  | a :: l => by simp only [List.map_cons, bools, bools_map f l, Option.map_some]
theorem st_size {n : Nat} {hk : Bool} {ρ : En} {S : DS} (h0 : mVar 0 ρ S = .ok (.int (n : Nat)) S) (h1 : mVar 1 ρ S = .ok (kindD hk) S) :
    mIf (bn2 (mVar 1) (ret (.str "whole")) fun x y => lft (dEq x y)) (bn2 (ret (.int 2)) (mVar 0) fun x y => lft (dMul x y)) (bn2 (bn2 (ret (.int 2)) (mVar 0) fun x y => lft (dMul x y)) (ret (.int 1)) fun x y => lft (dAdd x y)) ρ S = .ok (.int (sizeS n hk : Nat)) S := by
  rw [st_ifM (st_op h1 (n := ret (.str "whole")) rfl (kind_whole hk))]
  cases hk with
  | false => exact st_op rfl h0 (dmul2 n)
  | true => exact st_op (st_op (m := ret (.int 2)) rfl h0 (dmul2 n)) (n := ret (.int 1)) rfl rfl
/-- a loop that asks of each item, and ends at the first that fails -/
theorem for_chk {ι : Type} {g : GP} {body : MS} {S : DS} {d : D} (emb : ι → D) (p : ι → Bool) (I : En → Prop) : ∀ (l : List ι) (ρ : En), I ρ →
    (∀ i ∈ l, ∀ ρ, I ρ → ∃ ρ1, g (emb i) ρ = some ρ1 ∧ ((p i = true ∧ ∃ ρ2, body ρ1 S = .nx ρ2 S ∧ I ρ2) ∨ (p i = false ∧ body ρ1 S = .rt d S))) →
    (l.all p = true ∧ ∃ ρ', forLoop g body (l.map emb) ρ S = .nx ρ' S ∧ I ρ') ∨ (l.all p = false ∧ forLoop g body (l.map emb) ρ S = .rt d S)
  | [], ρ, hI, _ => .inl ⟨rfl, ρ, rfl, hI⟩
  | i :: l, ρ, hI, h => by
    obtain ⟨ρ1, e1, h1⟩ := h i List.mem_cons_self ρ hI
    rcases h1 with ⟨hp, ρ2, e2, hI2⟩ | ⟨hp, e2⟩
    · rw [List.all_cons, hp, Bool.true_and, List.map_cons, st_for_nx e1 e2]
      exact for_chk emb p I l ρ2 hI2 fun j hj => h j (List.mem_cons_of_mem _ hj)
    · exact .inr ⟨by rw [List.all_cons, hp, Bool.false_and], by rw [List.map_cons, st_for_rt e1 e2]⟩
theorem rng_ups (n : Nat) : rngD 1 n = (ups n).map fun k : Nat => D.int (k : Nat) := by
  unfold rngD ups
  rw [List.map_map]
  apply List.map_congr_left
  intro i _
  show D.int (1 + ((i : Nat) : Int)) = D.int ((i + 1 : Nat) : Int)
  congr 1
  omega
theorem enum_zip : ∀ (i : Nat) (zs : List Int), enumD i (zs.map D.int) = ((List.range' i zs.length).zip zs).map fun q : Nat × Int => D.par [.int (q.1 : Nat), .int q.2]
  | _, [] => rfl
  | i, z :: zs => by
    rw [List.map_cons, enumD, enum_zip (i + 1) zs, List.length_cons, List.range'_succ, List.zip_cons_cons, List.map_cons]
theorem pl_zip (z : Int) : ∀ (i : Nat) (zs : List Int), (((List.range' i zs.length).zip zs).filter fun q => decide (q.2 = z)).map (fun q => q.1) = pl z i zs
  | _, [] => rfl
  | i, x :: zs => by
    rw [List.length_cons, List.range'_succ, List.zip_cons_cons, pl]
    by_cases e : x = z
    · rw [List.filter_cons_of_pos (by simpa using e), if_pos e, List.map_cons, pl_zip z (i + 1) zs]
    · rw [List.filter_cons_of_neg (by simpa using e), if_neg e, pl_zip z (i + 1) zs]
theorem is_row_of_ok {n : Nat} {hk : Bool} {v : D} (hn : 1 ≤ n ∧ n ≤ 1000) (hv : (∃ es, v = .tup es ∧ es.all entB = true ∧ es.length ≤ 1000) ∨ ∃ es, v = .lst es) (S : DS) :
    f_is_row_of [.int (n : Nat), kindD hk, v] S = .ok (.bl (rowV n hk v)) S := by
  refine runFn_rt (ρ := [.val (.int (n : Nat)), .val (kindD hk), .val v, .no, .no, .no, .no, .no]) rfl ?_
  refine (st_seq (st_set (st_size (n := n) (hk := hk) rfl rfl))).trans ?_
  show sSeq _ _ [.val (.int (n : Nat)), .val (kindD hk), .val v, .val (.int (sizeS n hk : Nat)), .no, .no, .no, .no] S = _
  rcases hv with ⟨es, rfl, he, hl⟩ | ⟨es, rfl⟩
  rotate_left
  · exact st_seq_rt ((st_if_t (S1 := S) (st_or_t rfl)).trans (st_rt rfl))
  have hlc := lc_ok (ρ := [.val (.int (n : Nat)), .val (kindD hk), .val (.tup es), .val (.int (sizeS n hk : Nat)), .no, .no, .no, .no]) (S := S) (vs := [6]) (g := gpName 6) (tt := ret true) (te := mCall 1 (mCons (mVar 6) (ret [])) f_is_whole)
    (fun d : D => d) (fun _ => true) (fun d => .bl (wI d).isSome) (fun d => [.val (.int (n : Nat)), .val (kindD hk), .val (.tup es), .val (.int (sizeS n hk : Nat)), .no, .no, .val d, .no]) es fun d hd => ⟨rfl, rfl, fun _ => (st_call (ds := [d]) (S1 := S) rfl rfl).trans (is_whole_ok (List.all_eq_true.mp he d hd) S)⟩
  rw [List.filter_eq_self.mpr (fun _ _ => rfl), List.map_id'] at hlc
  generalize hρ : [SD.val (.int (n : Nat)), .val (kindD hk), .val (.tup es), .val (.int (sizeS n hk : Nat)), .no, .no, .no, .no] = ρ at hlc ⊢
  have v0 : mVar 0 ρ S = .ok (.int (n : Nat)) S := by rw [← hρ]; rfl
  have v1 : mVar 1 ρ S = .ok (kindD hk) S := by rw [← hρ]; rfl
  have v2 : mVar 2 ρ S = .ok (.tup es) S := by rw [← hρ]; rfl
  have v3 : mVar 3 ρ S = .ok (.int (sizeS n hk : Nat)) S := by rw [← hρ]; rfl
  have t1 : mNotT (bnd (mB1 (mVar 2) (dIsT "tuple")) asB) ρ S = .ok false S := st_not (k := true) (st_asB (st_b1 v2 rfl))
  have t2 : (bn2 (mB1 (mVar 2) dLen) (mVar 3) fun x y => lft (dNe x y)) ρ S = .ok (!decide (es.length = sizeS n hk)) S := by
    refine st_op (st_b1 v2 (d := .int es.length) rfl) v3 ?_
    show (dEq _ _).map _ = _
    rw [d_eqi]
    show some _ = some _
    congr 2
    exact decide_eq_decide.mpr (by omega)
  have t3 : mNotT (bnd (mB1 (bnd (mLc (bnd (mVar 2) asL) [6] (gpName 6) (ret true) (mCall 1 (mCons (mVar 6) (ret [])) f_is_whole)) fun ds => ret (.lst ds)) dAll) asB) ρ S = .ok (!(intsD es).isSome) S := by
    refine st_not (st_asB (st_b1 (a := .lst (es.map fun d => .bl (wI d).isSome)) ((st_bnd (st_lc (S1 := S) ((st_bnd v2).trans rfl) (by omega) (by rw [← hρ]; rfl) hlc)).trans rfl) ?_))
    show (bools _).map _ = _
    rw [bools_map, ints_all, Option.map_some]
    congr 2
    rw [List.all_map]
    rfl
  by_cases hsz : es.length = sizeS n hk
  rotate_left
  · rw [decide_eq_false hsz] at t2
    have e : rowV n hk (.tup es) = false := by
      unfold rowV
      dsimp only
      cases hi : intsD es with
      | none => rfl
      | some zs =>
        have := ints_map hi
        have hz : ¬ zs.length = sizeS n hk := by rw [this, List.length_map] at hsz; exact hsz
        unfold rowB
        dsimp only
        rw [decide_eq_false hz]
        rfl
    rw [e]
    exact st_seq_rt ((st_if_t ((st_or_f t1).trans (st_or_t t2))).trans (st_rt rfl))
  rw [decide_eq_true hsz] at t2
  cases hi : intsD es with
  | none =>
    rw [hi] at t3
    have e : rowV n hk (.tup es) = false := by unfold rowV; dsimp only; rw [hi]
    rw [e]
    exact st_seq_rt ((st_if_t ((st_or_f t1).trans ((st_or_f t2).trans t3))).trans (st_rt rfl))
  | some zs =>
    rw [hi] at t3
    have hes := ints_map hi
    have hzl : zs.length = sizeS n hk := by rw [hes, List.length_map] at hsz; exact hsz
    have e : rowV n hk (.tup es) = rowB n hk zs := by unfold rowV; dsimp only; rw [hi]
    rw [e]
    refine (st_seq (st_if_f ((st_or_f t1).trans ((st_or_f t2).trans t3)))).trans ?_
    have t4 : (mAndT (bn2 (mVar 1) (ret (.str "hooked")) fun x y => lft (dEq x y)) (bn2 (bn2 (mVar 2) (bn2 (mVar 3) (ret (.int 2)) fun x y => lft (dSub x y)) fun x y => lft (dIx x y)) (ret (.int 0)) fun x y => lft (dNe x y))) ρ S = .ok (hk && !decide (zs[2 * n - 1]? = some 0)) S := by
      refine st_and (st_op v1 rfl (kind_hooked hk)) fun hh => ?_
      subst hh
      have hlt : 2 * n - 1 < zs.length := by rw [hzl]; show 2 * n - 1 < 2 * n + 1; omega
      refine st_op (st_op v2 (st_op v3 (n := ret (.int 2)) rfl (f := dSub) (d := .int ((2 * n - 1 : Nat) : Int)) ?_) (f := dIx) (d := .int zs[2 * n - 1]) ?_) rfl ?_
      · show some (D.int _) = some (D.int _)
        congr 2
        show ((2 * n + 1 : Nat) : Int) - 2 = _
        omega
      · show atI es _ = _
        rw [atI_nat, hes, List.getElem?_map, List.getElem?_eq_getElem hlt]; rfl
      · show (dEq _ _).map _ = _
        rw [d_eqi, List.getElem?_eq_getElem hlt]
        show some _ = some _
        congr 2
        exact decide_eq_decide.mpr ⟨fun h => by rw [h], fun h => Option.some.inj h⟩
    by_cases h0 : (!hk || decide (zs[2 * n - 1]? = some 0)) = true
    rotate_left
    · rw [Bool.not_eq_true] at h0
      have : rowB n hk zs = false := by unfold rowB; rw [h0]; simp
      rw [this]
      have h0' : (hk && !decide (zs[2 * n - 1]? = some 0)) = true := by
        cases hk <;> simp_all
      rw [h0'] at t4
      exact st_seq_rt ((st_if_t t4).trans (st_rt rfl))
    have h0' : (hk && !decide (zs[2 * n - 1]? = some 0)) = false := by
      cases hk <;> simp_all
    rw [h0'] at t4
    refine (st_seq (st_if_f t4)).trans ?_
    have hr : rowB n hk zs = (ups n).all (gapK zs) := by
      unfold rowB
      rw [decide_eq_true hzl, h0]
      rfl
    rw [hr]
    have hrng : mRng2 (ret (.int 1)) (bn2 (mVar 0) (ret (.int 1)) fun x y => lft (dAdd x y)) ρ S = .ok ((ups n).map fun k : Nat => D.int (k : Nat)) S := by
      refine (st_bn2 (a := D.int 1) rfl (st_op v0 (n := ret (.int 1)) rfl (f := dAdd) (d := .int (((n : Nat) : Int) + 1)) rfl)).trans ?_
      dsimp only
      have hb : (big 1 && big ((n : Int) + 1)) = true := by
        unfold big
        simp only [Bool.and_eq_true, decide_eq_true_eq]
        omega
      rw [if_pos hb, show ((n : Int) + 1 - 1).toNat = n by omega, rng_ups]
      rfl
    rw [hes] at hρ
    have chk := for_chk (g := gpName 4) (S := S) (d := .bl false) (body := (sSeq (sE (mLc (mEnum (mVar 2)) [7, 6] (gpTup 2 (gpCons (gpName 7) (gpCons (gpName 6) gpNil))) (bn2 (mVar 6) (mVar 4) fun x y => lft (dEq x y)) (mVar 7)) fun ds => sSet 5 (.lst ds))
      (sIf (mOrT (bn2 (mB1 (mVar 5) dLen) (ret (.int 2)) fun x y => lft (dNe x y)) (bn2 (bn2 (bn2 (mVar 5) (ret (.int 1)) fun x y => lft (dIx x y)) (bn2 (mVar 5) (ret (.int 0)) fun x y => lft (dIx x y)) fun x y => lft (dSub x y)) (mVar 4) fun x y => lft (dNe x y))) (sE (ret (.bl false)) sRt) sNil)))
      (fun k : Nat => D.int (k : Nat)) (gapK zs) (fun ρ => ∃ s4 s5, notOwn [s4] 0 = true ∧ ρ = [SD.val (.int (n : Nat)), .val (kindD hk), .val (.tup (zs.map D.int)), .val (.int (sizeS n hk : Nat)), s4, s5, .no, .no]) (ups n) ρ ⟨.no, .no, rfl, hρ.symm⟩ fun k _ ρ' ⟨s4, s5, hs4, hρ'⟩ => by
        subst hρ'
        refine ⟨[SD.val (.int (n : Nat)), .val (kindD hk), .val (.tup (zs.map D.int)), .val (.int (sizeS n hk : Nat)), .val (.int (k : Nat)), s5, .no, .no], ?_, ?_⟩
        · show (if notOwn _ 4 = true then _ else _) = _
          rw [if_pos (show notOwn [SD.val (.int (n : Nat)), .val (kindD hk), .val (.tup (zs.map D.int)), .val (.int (sizeS n hk : Nat)), s4, s5, .no, .no] 4 = true from hs4)]
          rfl
        generalize hρ2 : [SD.val (.int (n : Nat)), .val (kindD hk), .val (.tup (zs.map D.int)), .val (.int (sizeS n hk : Nat)), .val (.int (k : Nat)), s5, .no, .no] = ρ2
        have en : mEnum (mVar 2) ρ2 S = .ok (((List.range' 0 zs.length).zip zs).map fun q : Nat × Int => D.par [.int (q.1 : Nat), .int q.2]) S := by
          rw [← enum_zip, ← hρ2]; rfl
        have hlc := lc_ok (ρ := ρ2) (S := S) (vs := [7, 6]) (g := gpTup 2 (gpCons (gpName 7) (gpCons (gpName 6) gpNil))) (tt := bn2 (mVar 6) (mVar 4) fun x y => lft (dEq x y)) (te := mVar 7)
          (fun q : Nat × Int => D.par [.int (q.1 : Nat), .int q.2]) (fun q => decide (q.2 = (k : Int))) (fun q => .int (q.1 : Nat)) (fun q => [SD.val (.int (n : Nat)), .val (kindD hk), .val (.tup (zs.map D.int)), .val (.int (sizeS n hk : Nat)), .val (.int (k : Nat)), s5, .val (.int q.2), .val (.int (q.1 : Nat))]) ((List.range' 0 zs.length).zip zs) fun q _ => by
            rw [← hρ2]
            exact ⟨rfl, rfl, fun _ => rfl⟩
        have hp : (((List.range' 0 zs.length).zip zs).filter fun q => decide (q.2 = (k : Int))).map (fun q => D.int (q.1 : Nat)) = (pl (k : Int) 0 zs).map fun p : Nat => D.int (p : Nat) := by
          rw [← pl_zip, List.map_map]; rfl
        rw [hp] at hlc
        have hm := st_lc en (by simp only [List.length_map, List.length_zip, List.length_range']; rw [hes, List.length_map] at hl; omega) (by rw [← hρ2]; rfl) hlc
        have hst : ∀ b : MS, sSeq (sE (mLc (mEnum (mVar 2)) [7, 6] (gpTup 2 (gpCons (gpName 7) (gpCons (gpName 6) gpNil))) (bn2 (mVar 6) (mVar 4) fun x y => lft (dEq x y)) (mVar 7)) fun ds => sSet 5 (.lst ds)) b ρ2 S = b [SD.val (.int (n : Nat)), .val (kindD hk), .val (.tup (zs.map D.int)), .val (.int (sizeS n hk : Nat)), .val (.int (k : Nat)), .val (.lst ((pl (k : Int) 0 zs).map fun p : Nat => D.int (p : Nat))), .no, .no] S := fun b => by
          refine (st_seq (st_sE hm)).trans ?_
          rw [← hρ2]
          rfl
        rw [hst]
        unfold gapK
        match hpp : pl (k : Int) 0 zs with
        | [] => exact .inr ⟨rfl, (st_if_t (S1 := S) (st_or_t rfl)).trans (st_rt rfl)⟩
        | [p] => exact .inr ⟨rfl, (st_if_t (S1 := S) (st_or_t rfl)).trans (st_rt rfl)⟩
        | p :: q :: r :: t =>
          refine .inr ⟨rfl, (st_if_t (S1 := S) (st_or_t ?_)).trans (st_rt rfl)⟩
          refine st_op (st_b1 (a := .lst ((p :: q :: r :: t).map fun p : Nat => D.int (p : Nat))) rfl rfl) (n := ret (.int 2)) rfl ?_
          show (dEq _ _).map _ = _
          rw [d_eqi, decide_eq_false (by simp only [List.length_map, List.length_cons]; omega)]
          rfl
        | [p, q] =>
          have c : ∀ b : Bool, dNe (.int ((q : Int) - p)) (.int (k : Nat)) = some b → (mOrT (bn2 (mB1 (mVar 5) dLen) (ret (.int 2)) fun x y => lft (dNe x y)) (bn2 (bn2 (bn2 (mVar 5) (ret (.int 1)) fun x y => lft (dIx x y)) (bn2 (mVar 5) (ret (.int 0)) fun x y => lft (dIx x y)) fun x y => lft (dSub x y)) (mVar 4) fun x y => lft (dNe x y)))
              [SD.val (.int (n : Nat)), .val (kindD hk), .val (.tup (zs.map D.int)), .val (.int (sizeS n hk : Nat)), .val (.int (k : Nat)), .val (.lst ([p, q].map fun p : Nat => D.int (p : Nat))), .no, .no] S = .ok b S := fun b hb => by
            refine (st_or_f (S1 := S) rfl).trans ?_
            exact st_op (st_op (a := .int (q : Nat)) (b := .int (p : Nat)) rfl rfl rfl) (b := .int (k : Nat)) rfl hb
          have hne : dNe (.int ((q : Int) - p)) (.int (k : Nat)) = some (!decide (q = p + k)) := by
            show (dEq _ _).map _ = _
            rw [d_eqi]
            show some _ = some _
            congr 2
            exact decide_eq_decide.mpr (by omega)
          by_cases hq : q = p + k
          · rw [decide_eq_true hq] at hne
            exact .inl ⟨decide_eq_true hq, _, (st_if_f (c _ hne)).trans rfl, _, _, rfl, rfl⟩
          · rw [decide_eq_false hq] at hne
            exact .inr ⟨decide_eq_false hq, (st_if_t (c _ hne)).trans (st_rt rfl)⟩
    rcases chk with ⟨ha, ρ', hf, _⟩ | ⟨ha, hf⟩
    · rw [ha]
      exact (st_seq ((st_for hrng).trans hf)).trans (st_rt rfl)
    · rw [ha]
      exact st_seq_rt ((st_for hrng).trans hf)
end Pf
end

section
set_option Elab.async false
set_option linter.all false
set_option maxRecDepth 100000
namespace Pf
open PySem PySem.Spec L2
abbrev Ass := List (Int × Nat)
def eK (F : Ass) : List (D × D) := F.map fun q => (.int q.1, .int (q.2 : Nat))
def look (F : Ass) (z : Int) : Option Nat := (F.find? fun q => decide (q.1 = z)).map (·.2)
def putA (F : Ass) (z : Int) (p : Nat) : Ass := if (F.any fun q => decide (q.1 = z)) = true then F.map (fun q => if q.1 = z then (q.1, p) else q) else F ++ [(z, p)]
theorem key_dec (x z : Int) : decide (keyD (D.int x) = some (Sum.inl z : Key)) = decide (x = z) := by
  show decide (some (Sum.inl x : Key) = some (Sum.inl z)) = _
  exact decide_eq_decide.mpr ⟨fun h => by injection h with h; injection h, fun h => by rw [h]⟩
theorem get_eK (F : Ass) (z : Int) : dGetK (eK F) (.inl z) = (look F z).map fun p : Nat => D.int (p : Nat) := by
  unfold dGetK eK look
  rw [List.find?_map, Option.map_map, Option.map_map]
  have e : ((fun p : D × D => decide (keyD p.1 = some (Sum.inl z : Key))) ∘ fun q : Int × Nat => (D.int q.1, D.int (q.2 : Nat))) = fun q => decide (q.1 = z) := funext fun q => key_dec q.1 z
  rw [e]
  rfl
theorem put_eK (F : Ass) (z : Int) (p : Nat) : dPutK (eK F) (.int z) (.inl z) (.int (p : Nat)) = eK (putA F z p) := by
  unfold dPutK putA
  have e : (eK F).any (fun p => decide (keyD p.1 = some (Sum.inl z : Key))) = F.any fun q => decide (q.1 = z) := by
    unfold eK
    rw [List.any_map]
    congr 1
    exact funext fun q => key_dec q.1 z
  rw [e]
  split
  · unfold eK
    rw [List.map_map, List.map_map]
    apply List.map_congr_left
    intro q _
    show (if keyD (D.int q.1) = some (Sum.inl z : Key) then _ else _) = (D.int (if q.1 = z then (q.1, p) else q).1, D.int ((if q.1 = z then (q.1, p) else q).2 : Nat))
    by_cases h : q.1 = z
    · rw [if_pos (by rw [h]; rfl), if_pos h]
    · rw [if_neg (fun c => h (by injection c with c; injection c)), if_neg h]
  · unfold eK
    rw [List.map_append]; rfl
theorem look_put (F : Ass) (z y : Int) (p : Nat) : look (putA F z p) y = if y = z then some p else look F y := by
  unfold putA
  split
  · rename_i h
    induction F with
    | nil => cases h
    | cons q F ih =>
      rw [List.map_cons]
      by_cases hq : q.1 = z
      · rw [if_pos hq]
        by_cases hy : y = z
        · rw [if_pos hy]
          unfold look
          rw [List.find?_cons_of_pos (by simp [hq, hy])]; rfl
        · rw [if_neg hy]
          unfold look
          rw [List.find?_cons_of_neg (by simp [hq]; exact fun e => hy e.symm), List.find?_cons_of_neg (by simp [hq]; exact fun e => hy e.symm)]
          -- the rest: no y is touched
          clear ih h
          induction F with
          | nil => rfl
          | cons r F ih =>
            rw [List.map_cons]
            by_cases hr : r.1 = z
            · rw [if_pos hr, List.find?_cons_of_neg (by simp [hr]; exact fun e => hy e.symm), List.find?_cons_of_neg (by simp [hr]; exact fun e => hy e.symm)]
              exact ih
            · rw [if_neg hr]
              by_cases hry : r.1 = y
              · rw [List.find?_cons_of_pos (by simp [hry]), List.find?_cons_of_pos (by simp [hry])]
              · rw [List.find?_cons_of_neg (by simp [hry]), List.find?_cons_of_neg (by simp [hry])]
                exact ih
      · rw [if_neg hq]
        have h' : (F.any fun q => decide (q.1 = z)) = true := by
          rw [List.any_cons, decide_eq_false hq, Bool.false_or] at h
          exact h
        have ih' := ih h'
        unfold look at ih' ⊢
        by_cases hqy : q.1 = y
        · rw [List.find?_cons_of_pos (by simp [hqy]), List.find?_cons_of_pos (by simp [hqy]), if_neg (by rw [← hqy]; exact hq)]
        · rw [List.find?_cons_of_neg (by simp [hqy]), List.find?_cons_of_neg (by simp [hqy])]
          exact ih'
  · rename_i h
    rw [Bool.not_eq_true] at h
    unfold look
    rw [List.find?_append]
    by_cases hy : y = z
    · subst hy
      have e : F.find? (fun q => decide (q.1 = y)) = none := List.find?_eq_none.mpr fun q hq => by
        have := List.any_eq_false.mp h q hq
        simpa using this
      rw [e, if_pos rfl]
      simp
    · rw [if_neg hy]
      cases F.find? (fun q => decide (q.1 = y)) with
      | some q => rfl
      | none => simp; exact fun e => hy e.symm
theorem look_mem (F : Ass) (z : Int) : (look F z).isSome = true ↔ z ∈ F.map (·.1) := by
  unfold look
  rw [Option.isSome_map, List.find?_isSome, List.mem_map]
  constructor
  · rintro ⟨q, h, e⟩; exact ⟨q, h, of_decide_eq_true e⟩
  · rintro ⟨q, h, e⟩; exact ⟨q, h, decide_eq_true e⟩
theorem any_mem (F : Ass) (z : Int) : (F.any fun q => decide (q.1 = z)) = true ↔ z ∈ F.map (·.1) := by
  rw [List.any_eq_true, List.mem_map]
  constructor
  · rintro ⟨q, h, e⟩; exact ⟨q, h, of_decide_eq_true e⟩
  · rintro ⟨q, h, e⟩; exact ⟨q, h, decide_eq_true e⟩
theorem put_len (F : Ass) (z : Int) (p : Nat) : (putA F z p).length ≤ F.length + 1 := by
  unfold putA
  split <;> simp
theorem put_nodup {F : Ass} {z : Int} {p : Nat} (h : (F.map (·.1)).Nodup) : ((putA F z p).map (·.1)).Nodup := by
  unfold putA
  split
  · rw [List.map_map]
    have e : ((fun q : Int × Nat => q.1) ∘ fun q : Int × Nat => if q.1 = z then (q.1, p) else q) = fun q => q.1 := funext fun q => by
      show (if q.1 = z then (q.1, p) else q).1 = q.1
      split <;> rfl
    rw [e]; exact h
  · rename_i hn
    rw [List.map_append]
    refine List.nodup_append.mpr ⟨h, by simp, fun a ha b hb e => hn ((any_mem F z).mpr ?_)⟩
    rw [List.map_cons, List.map_nil, List.mem_singleton] at hb
    have hb' : b = z := hb
    rw [← hb', ← e]; exact ha
/-- firsts and lasts -/
def goF : Nat → Ass → Ass → List Int → Ass × Ass
  | _, F, L, [] => (F, L)
  | i, F, L, z :: zs => goF (i + 1) (if (look F z).isSome = true then F else putA F z i) (putA L z i) zs
theorem goF_look : ∀ (zs : List Int) (i : Nat) (F L : Ass) (y : Int), look (goF i F L zs).1 y = (look F y).or (pl y i zs).head? ∧ look (goF i F L zs).2 y = ((pl y i zs).getLast?).or (look L y)
  | [], _, F, L, y => ⟨by simp [goF, pl], by simp [goF, pl]⟩
  | z :: zs, i, F, L, y => by
    obtain ⟨h1, h2⟩ := goF_look zs (i + 1) (if (look F z).isSome = true then F else putA F z i) (putA L z i) y
    unfold goF pl
    rw [h1, h2, look_put]
    by_cases e : z = y
    · subst e
      rw [if_pos rfl, if_pos rfl]
      constructor
      · cases hl : look F z with
        | some p => rw [if_pos (show (some p).isSome = true from rfl), hl]; rfl
        | none => rw [if_neg (show ¬ (none : Option Nat).isSome = true by simp), look_put, if_pos rfl]; rfl
      · cases hp : pl z (i + 1) zs with
        | nil => rfl
        | cons a t =>
          rw [List.getLast?_cons_cons]
          cases hg : (a :: t).getLast? with
          | none => simp at hg
          | some b => rfl
    · rw [if_neg e, if_neg (show ¬ y = z from fun c => e c.symm)]
      refine ⟨?_, rfl⟩
      congr 1
      split
      · rfl
      · rw [look_put, if_neg (fun c => e c.symm)]
theorem goF_nodup : ∀ (zs : List Int) (i : Nat) (F L : Ass), (F.map (·.1)).Nodup → ((goF i F L zs).1.map (·.1)).Nodup
  | [], _, _, _, h => h
  | z :: zs, i, F, L, h => by
    unfold goF
    refine goF_nodup zs _ _ _ ?_
    split
    · exact h
    · exact put_nodup h
def keysS (zs : List Int) : List Int := (goF 0 [] [] zs).1.map (·.1)
theorem keysS_mem (zs : List Int) (z : Int) : z ∈ keysS zs ↔ z ∈ zs := by
  unfold keysS
  rw [← look_mem, (goF_look zs 0 [] [] z).1]
  show ((pl z 0 zs).head?).isSome = true ↔ _
  have := pl_nil (z := z) (i := 0) (xs := zs)
  cases h : pl z 0 zs with
  | nil => simp [this.mp h]
  | cons a t =>
    simp only [List.head?_cons, Option.isSome_some, true_iff]
    by_cases q : z ∈ zs
    · exact q
    · rw [this.mpr q] at h; cases h
theorem keysS_nodup (zs : List Int) : (keysS zs).Nodup := goF_nodup zs 0 [] [] List.nodup_nil
/-! ### the mirror's dicts -/
section
variable {n : Nat} {hk : Bool} {v : D} {S : DS}
abbrev rhoG (n : Nat) (hk : Bool) (v : D) (F L : Ass) (s6 s7 : SD) : En := [SD.val (.int (n : Nat)), .val (kindD hk), .val v, .val (.int (sizeS n hk : Nat)), .ownd (eK F), .ownd (eK L), s6, s7]
abbrev gapBody : MS := (sSeq (sIf (mDin false 4 (mVar 7)) (sDput 4 (mVar 6) (mVar 7)) sNil)
  (sDput 5 (mVar 6) (mVar 7)))
theorem st_dput {ρ : En} {i : Nat} {mv mk : M D} {F : Ass} {z : Int} {p : Nat} (e : ρ[i]? = some (.ownd (eK F))) (h1 : mv ρ S = .ok (.int (p : Nat)) S) (h2 : mk ρ S = .ok (.int z) S) (hl : F.length < 16777216) :
    sDput i mv mk ρ S = .nx (ρ.set i (.ownd (eK (putA F z p)))) S := by
  unfold sDput
  rw [st_sE h1]
  rw [e]
  dsimp only
  rw [st_sE h2]
  dsimp only [keyD]
  rw [if_pos (by unfold eK; rw [List.length_map]; exact hl), put_eK]
theorem st_din {ρ : En} {i : Nat} {pos : Bool} {m : M D} {F : Ass} {z : Int} (e : kvOf ρ i = some (eK F)) (h : m ρ S = .ok (.int z) S) : mDin pos i m ρ S = .ok ((look F z).isSome == pos) S := by
  unfold mDin
  rw [st_bnd h]
  show (match kvOf ρ i, (some (Sum.inl z) : Option Key) with | some kd, some k => Res.ok ((dGetK kd k).isSome == pos) S | _, _ => .bad) = _
  rw [e]
  show Res.ok ((dGetK (eK F) (Sum.inl z)).isSome == pos) S = _
  rw [get_eK, Option.isSome_map]
theorem st_dget {ρ : En} {i : Nat} {m : M D} {F : Ass} {z : Int} {p : Nat} (e : kvOf ρ i = some (eK F)) (h : m ρ S = .ok (.int z) S) (hp : look F z = some p) : mDget i m ρ S = .ok (.int (p : Nat)) S := by
  unfold mDget
  rw [e]
  refine (st_bnd h).trans ?_
  show (match dGetK (eK F) (Sum.inl z) with | some d => ret d | none => bad) ρ S = _
  rw [get_eK, hp]
  rfl
theorem gap_loop : ∀ (zs : List Int) (i : Nat) (F L : Ass) (s6 s7 : SD), notOwn [s6] 0 = true → notOwn [s7] 0 = true → F.length + zs.length ≤ 10000 → L.length + zs.length ≤ 10000 →
    ∃ s6' s7', notOwn [s7'] 0 = true ∧ forLoop (gpTup 2 (gpCons (gpName 6) (gpCons (gpName 7) gpNil))) gapBody (enumD i (zs.map D.int)) (rhoG n hk v F L s6 s7) S = .nx (rhoG n hk v (goF i F L zs).1 (goF i F L zs).2 s6' s7') S
  | [], i, F, L, s6, s7, _, h7, _, _ => ⟨s6, s7, h7, rfl⟩
  | z :: zs, i, F, L, s6, s7, h6, h7, hF, hL => by
    rw [List.length_cons] at hF hL
    have hg : gpTup 2 (gpCons (gpName 6) (gpCons (gpName 7) gpNil)) (.par [.int (i : Nat), .int z]) (rhoG n hk v F L s6 s7) = some (rhoG n hk v F L (.val (.int (i : Nat))) (.val (.int z))) := by
      cases s6 <;> cases s7 <;> first | rfl | exact (Bool.false_ne_true h6).elim | exact (Bool.false_ne_true h7).elim
    rw [List.map_cons, enumD]
    have d1 : (sIf (mDin false 4 (mVar 7)) (sDput 4 (mVar 6) (mVar 7)) sNil) (rhoG n hk v F L (.val (.int (i : Nat))) (.val (.int z))) S = .nx (rhoG n hk v (if (look F z).isSome = true then F else putA F z i) L (.val (.int (i : Nat))) (.val (.int z))) S := by
      have t := st_din (ρ := rhoG n hk v F L (.val (.int (i : Nat))) (.val (.int z))) (S := S) (i := 4) (pos := false) (m := mVar 7) (F := F) (z := z) rfl rfl
      cases hl : (look F z).isSome with
      | true =>
        rw [hl] at t
        exact (st_if_f t).trans rfl
      | false =>
        rw [hl] at t
        exact (st_if_t t).trans (st_dput (F := F) (z := z) (p := i) rfl rfl rfl (by omega))
    have d2 : gapBody (rhoG n hk v F L (.val (.int (i : Nat))) (.val (.int z))) S = .nx (rhoG n hk v (if (look F z).isSome = true then F else putA F z i) (putA L z i) (.val (.int (i : Nat))) (.val (.int z))) S :=
      (st_seq d1).trans (st_dput (F := L) (z := z) (p := i) rfl rfl rfl (by omega))
    rw [st_for_nx hg d2]
    have l1 := put_len F z i
    have l2 := put_len L z i
    have l3 : (if (look F z).isSome = true then F else putA F z i).length ≤ F.length + 1 := by split <;> omega
    unfold goF
    exact gap_loop zs (i + 1) _ _ _ _ rfl rfl (by omega) (by omega)
end
end Pf
end

section
set_option Elab.async false
set_option linter.all false
set_option maxRecDepth 100000
namespace Pf
open PySem PySem.Spec L2
theorem toPs_ones {ι : Type} : ∀ l : List ι, toPs (l.map fun _ => D.int 1) = some (l.map fun _ => PyData.int 1)
  | [] => by simp [toPs]
  | _ :: l => by simp only [List.map_cons, toPs, toP, toPs_ones l]
theorem lay_ones {ι : Type} : ∀ l : List ι, PyData.canLayAll0 (l.map fun _ => PyData.int 1) = true ∧ PyData.depthAll (l.map fun _ => PyData.int 1) = 0
  | [] => by simp [PyData.canLayAll0, PyData.depthAll]
  | _ :: l => by
    obtain ⟨h1, h2⟩ := lay_ones l
    simp [PyData.canLayAll0, PyData.depthAll, h1, h2, PyData.canLay0, PyData.depth]
theorem dEq_ones {ι : Type} (l : List ι) : dEq (.lst (l.map fun _ => D.int 1)) (.lst []) = some l.isEmpty := by
  have t1 : toP (.lst (l.map fun _ => D.int 1)) = some (.list (l.map fun _ => PyData.int 1)) := by simp [toP, toPs_ones]
  have t2 : toP (.lst []) = some (.list []) := by simp [toP, toPs]
  have t3 : SeqAt.shaped (.list (l.map fun _ => PyData.int 1)) = true := by
    obtain ⟨h1, h2⟩ := lay_ones l
    show (PyData.canLayAll0 _ && decide (PyData.depthAll _ + 1 ≤ 64)) = true
    rw [h1, h2]; rfl
  simp only [dEq, t1, t2, t3, show SeqAt.shaped (.list []) = true by decide, and_self, if_true, PyData.eqv]
  cases l <;> simp [PyData.eqvAll]
theorem dNe_ones {ι : Type} (l : List ι) : dNe (.lst (l.map fun _ => D.int 1)) (.lst []) = some (!l.isEmpty) := by
  unfold dNe
  rw [dEq_ones]; rfl
theorem filter_empty {ι : Type} (p : ι → Bool) : ∀ l : List ι, (l.filter p).isEmpty = l.all (fun i => !p i)
  | [] => rfl
  | i :: l => by
    cases h : p i with
    | true => rw [List.filter_cons_of_pos h, List.all_cons, h]; rfl
    | false => rw [List.filter_cons_of_neg (by rw [h]; exact Bool.false_ne_true), List.all_cons, h, filter_empty p l]; rfl
def numB (n : Nat) (d : D) : Bool := match wI d with
  | some z => decide (0 ≤ z) && decide (z ≤ n)
  | none => false
theorem nums_all (n : Nat) : ∀ es : List D, es.all (numB n) = match intsD es with
    | some zs => zs.all fun z => decide (0 ≤ z) && decide (z ≤ n)
    | none => false
  | [] => rfl
  | d :: es => by
    rw [List.all_cons, nums_all n es]
    cases d <;> simp only [numB, wI, intsD, Bool.false_and]
    cases intsD es with
    | none => simp
    | some zs => simp
theorem size_sub (n : Nat) (hk : Bool) : ((n : Int) + (sizeS n hk : Nat)) - ((2 * n : Nat) : Int) = ((n + sizeS n hk - 2 * n : Nat) : Int) := by
  cases hk
  · show (n : Int) + ((2 * n : Nat) : Int) - _ = ((n + 2 * n - 2 * n : Nat) : Int); omega
  · show (n : Int) + ((2 * n + 1 : Nat) : Int) - _ = ((n + (2 * n + 1) - 2 * n : Nat) : Int); omega
theorem is_gap_ok {n : Nat} {hk : Bool} {v : D} (hn : 1 ≤ n ∧ n ≤ 1000) (hv : (∃ es, v = .tup es ∧ es.all entB = true ∧ es.length ≤ 1000) ∨ ∃ es, v = .lst es) (S : DS) :
    f__law_is_gap [.int (n : Nat), kindD hk, v] S = .ok (.bl (rowV n hk v)) S := by
  refine runFn_rt (ρ := [.val (.int (n : Nat)), .val (kindD hk), .val v, .no, .no, .no, .no, .no]) rfl ?_
  refine (st_seq (st_set (st_size (n := n) (hk := hk) rfl rfl))).trans ?_
  show sSeq _ _ [.val (.int (n : Nat)), .val (kindD hk), .val v, .val (.int (sizeS n hk : Nat)), .no, .no, .no, .no] S = _
  rcases hv with ⟨es, rfl, he, hl⟩ | ⟨es, rfl⟩
  rotate_left
  · exact st_seq_rt ((st_if_t (S1 := S) (st_or_t rfl)).trans (st_rt rfl))
  have hlc := lc_ok (ρ := [.val (.int (n : Nat)), .val (kindD hk), .val (.tup es), .val (.int (sizeS n hk : Nat)), .no, .no, .no, .no]) (S := S) (vs := [7]) (g := gpName 7) (tt := mNotT (bnd (mCall 3 (mCons (mVar 7) (mCons (ret (.int 0)) (mCons (mVar 0) (ret [])))) f__law_is_number) asB)) (te := ret (.int 1))
    (fun d : D => d) (fun d => !numB n d) (fun d => .int 1) (fun d => [.val (.int (n : Nat)), .val (kindD hk), .val (.tup es), .val (.int (sizeS n hk : Nat)), .no, .no, .no, .val d]) es fun d hd => ⟨rfl, st_not (st_asB ((st_call (ds := [d, .int 0, .int (n : Nat)]) (S1 := S) rfl rfl).trans (is_number_ok (List.all_eq_true.mp he d hd) n S))), fun _ => rfl⟩
  rw [List.map_id'] at hlc
  generalize hρ : [SD.val (.int (n : Nat)), .val (kindD hk), .val (.tup es), .val (.int (sizeS n hk : Nat)), .no, .no, .no, .no] = ρ at hlc ⊢
  have v2 : mVar 2 ρ S = .ok (.tup es) S := by rw [← hρ]; rfl
  have v3 : mVar 3 ρ S = .ok (.int (sizeS n hk : Nat)) S := by rw [← hρ]; rfl
  have t1 : mNotT (bnd (mB1 (mVar 2) (dIsT "tuple")) asB) ρ S = .ok false S := st_not (k := true) (st_asB (st_b1 v2 rfl))
  have t2 : (bn2 (mB1 (mVar 2) dLen) (mVar 3) fun x y => lft (dNe x y)) ρ S = .ok (!decide (es.length = sizeS n hk)) S := by
    refine st_op (st_b1 v2 (d := .int es.length) rfl) v3 ?_
    show (dEq _ _).map _ = _
    rw [d_eqi]
    show some _ = some _
    congr 2
    exact decide_eq_decide.mpr (by omega)
  have t3 : (bn2 (bnd (mLc (bnd (mVar 2) asL) [7] (gpName 7) (mNotT (bnd (mCall 3 (mCons (mVar 7) (mCons (ret (.int 0)) (mCons (mVar 0) (ret [])))) f__law_is_number) asB)) (ret (.int 1))) fun ds => ret (.lst ds)) (mLst (ret [])) fun x y => lft (dNe x y)) ρ S = .ok (!es.all (numB n)) S := by
    refine st_op ((st_bnd (st_lc (S1 := S) ((st_bnd v2).trans rfl) (by omega) (by rw [← hρ]; rfl) hlc)).trans rfl) (n := mLst (ret [])) rfl ?_
    rw [dNe_ones, filter_empty]
    simp
  by_cases hsz : es.length = sizeS n hk
  rotate_left
  · rw [decide_eq_false hsz] at t2
    have e : rowV n hk (.tup es) = false := by
      unfold rowV
      dsimp only
      cases hi : intsD es with
      | none => rfl
      | some zs =>
        have := ints_map hi
        have hz : ¬ zs.length = sizeS n hk := by rw [this, List.length_map] at hsz; exact hsz
        unfold rowB
        dsimp only
        rw [decide_eq_false hz]
        rfl
    rw [e]
    exact st_seq_rt ((st_if_t ((st_or_f t1).trans (st_or_t t2))).trans (st_rt rfl))
  rw [decide_eq_true hsz] at t2
  rw [nums_all] at t3
  cases hi : intsD es with
  | none =>
    rw [hi] at t3
    have e : rowV n hk (.tup es) = false := by unfold rowV; dsimp only; rw [hi]
    rw [e]
    exact st_seq_rt ((st_if_t ((st_or_f t1).trans ((st_or_f t2).trans t3))).trans (st_rt rfl))
  | some zs =>
    rw [hi] at t3
    have hes := ints_map hi
    have hzl : zs.length = sizeS n hk := by rw [hes, List.length_map] at hsz; exact hsz
    have e : rowV n hk (.tup es) = gapB n hk zs (keysS zs) := by
      unfold rowV; dsimp only; rw [hi]
      exact row_gap hn.1 (keysS_mem zs) (keysS_nodup zs)
    rw [e]
    by_cases hr : (zs.all fun z => decide (0 ≤ z) && decide (z ≤ n)) = true
    rotate_left
    · rw [Bool.not_eq_true] at hr
      dsimp only at t3
      rw [hr] at t3
      have : gapB n hk zs (keysS zs) = false := by unfold gapB; rw [hr]; simp
      rw [this]
      exact st_seq_rt ((st_if_t ((st_or_f t1).trans ((st_or_f t2).trans t3))).trans (st_rt rfl))
    dsimp only at t3
    rw [hr] at t3
    refine (st_seq (st_if_f ((st_or_f t1).trans ((st_or_f t2).trans t3)))).trans ?_
    subst hρ
    refine (st_seq (st_two (s := .ownd []) (t := .ownd []) (S1 := S) (S2 := S) rfl rfl (by simp))).trans ?_
    show sSeq _ _ (rhoG n hk (.tup es) [] [] .no .no) S = _
    have en : mEnum (mVar 2) (rhoG n hk (.tup es) [] [] .no .no) S = .ok (enumD 0 (zs.map D.int)) S := by rw [← hes]; rfl
    obtain ⟨s6, s7, h7, hloop⟩ := gap_loop (n := n) (hk := hk) (v := .tup es) (S := S) zs 0 [] [] .no .no rfl rfl (by rw [hes, List.length_map] at hl; simp only [List.length_nil]; omega) (by rw [hes, List.length_map] at hl; simp only [List.length_nil]; omega)
    refine (st_seq ((st_for en).trans hloop)).trans ?_
    have lk := fun y => goF_look zs 0 [] [] y
    have kk : (goF 0 [] [] zs).1.map (·.1) = keysS zs := rfl
    generalize hFe : (goF 0 [] [] zs).1 = F at lk kk
    generalize hLe : (goF 0 [] [] zs).2 = L at lk
    have lF : ∀ y, look F y = (pl y 0 zs).head? := fun y => (lk y).1.trans rfl
    have lL : ∀ y, look L y = (pl y 0 zs).getLast? := fun y => (lk y).2.trans (by cases (pl y 0 zs).getLast? <;> rfl)
    generalize hρ : rhoG n hk (.tup es) F L s6 s7 = ρ
    have v0 : mVar 0 ρ S = .ok (.int (n : Nat)) S := by rw [← hρ]; rfl
    have v1 : mVar 1 ρ S = .ok (kindD hk) S := by rw [← hρ]; rfl
    have v3 : mVar 3 ρ S = .ok (.int (sizeS n hk : Nat)) S := by rw [← hρ]; rfl
    have k4 : kvOf ρ 4 = some (eK F) := by rw [← hρ]; rfl
    have k5 : kvOf ρ 5 = some (eK L) := by rw [← hρ]; rfl
    have i0 := fun pos => st_din (pos := pos) k4 (m := ret (.int 0)) (S := S) (z := 0) rfl
    have sz2 : hk = true → (bn2 (mVar 3) (ret (.int 2)) fun x y => lft (dSub x y)) ρ S = .ok (.int ((2 * n - 1 : Nat) : Int)) S := fun h => by
      refine st_op v3 (n := ret (.int 2)) rfl ?_
      subst h
      show some (D.int (((2 * n + 1 : Nat) : Int) - 2)) = some (D.int _)
      congr 2
      omega
    have ne : ∀ a b : Nat, dNe (.int (a : Nat)) (.int (b : Nat)) = some (!decide (a = b)) := fun a b => by
      show (dEq _ _).map _ = _
      rw [d_eqi]
      show some _ = some _
      congr 2
      exact decide_eq_decide.mpr (by omega)
    have t5 : (mOrT (mAndT (bn2 (mVar 1) (ret (.str "hooked")) fun x y => lft (dEq x y)) (mOrT (mDin false 4 (ret (.int 0))) (mOrT (bn2 (mDget 4 (ret (.int 0))) (bn2 (mVar 3) (ret (.int 2)) fun x y => lft (dSub x y)) fun x y => lft (dNe x y)) (bn2 (mDget 5 (ret (.int 0))) (bn2 (mVar 3) (ret (.int 2)) fun x y => lft (dSub x y)) fun x y => lft (dNe x y))))) (mAndT (bn2 (mVar 1) (ret (.str "whole")) fun x y => lft (dEq x y)) (mDin true 4 (ret (.int 0))))) ρ S
        = .ok (!(if hk = true then decide ((pl 0 0 zs).head? = some (2 * n - 1)) && decide ((pl 0 0 zs).getLast? = some (2 * n - 1)) else decide (pl 0 0 zs = []))) S := by
      have h1 := st_op v1 (n := ret (.str "hooked")) (S2 := S) rfl (kind_hooked hk)
      have h2 := st_op v1 (n := ret (.str "whole")) (S2 := S) rfl (kind_whole hk)
      cases hk with
      | false =>
        rw [if_neg Bool.false_ne_true]
        refine (st_or_f (st_and_f h1)).trans ((st_and_t h2).trans ?_)
        rw [i0, lF]
        cases pl 0 0 zs <;> simp
      | true =>
        rw [if_pos rfl]
        have fin : ∀ b, (mOrT (mDin false 4 (ret (.int 0))) (mOrT (bn2 (mDget 4 (ret (.int 0))) (bn2 (mVar 3) (ret (.int 2)) fun x y => lft (dSub x y)) fun x y => lft (dNe x y)) (bn2 (mDget 5 (ret (.int 0))) (bn2 (mVar 3) (ret (.int 2)) fun x y => lft (dSub x y)) fun x y => lft (dNe x y)))) ρ S = .ok b S →
            (mOrT (mAndT (bn2 (mVar 1) (ret (.str "hooked")) fun x y => lft (dEq x y)) (mOrT (mDin false 4 (ret (.int 0))) (mOrT (bn2 (mDget 4 (ret (.int 0))) (bn2 (mVar 3) (ret (.int 2)) fun x y => lft (dSub x y)) fun x y => lft (dNe x y)) (bn2 (mDget 5 (ret (.int 0))) (bn2 (mVar 3) (ret (.int 2)) fun x y => lft (dSub x y)) fun x y => lft (dNe x y))))) (mAndT (bn2 (mVar 1) (ret (.str "whole")) fun x y => lft (dEq x y)) (mDin true 4 (ret (.int 0))))) ρ S = .ok b S := fun b h => by
          have a := (st_and_t h1).trans h
          cases b with
          | true => exact st_or_t a
          | false => exact (st_or_f a).trans (st_and_f h2)
        apply fin
        cases hp : pl 0 0 zs with
        | nil =>
          have := i0 false
          rw [lF, hp] at this
          exact (st_or_t this).trans rfl
        | cons a t =>
          have i1 := i0 false
          rw [lF, hp] at i1
          refine (st_or_f i1).trans ?_
          have g4 := st_dget k4 (m := ret (.int 0)) (S := S) (z := 0) (p := a) rfl (by rw [lF, hp]; rfl)
          obtain ⟨b, hb⟩ : ∃ b, (a :: t).getLast? = some b := ⟨_, List.getLast?_eq_some_getLast (by simp)⟩
          have g5 := st_dget k5 (m := ret (.int 0)) (S := S) (z := 0) (p := b) rfl (by rw [lL, hp, hb])
          rw [st_or (st_op g4 (sz2 rfl) (ne _ _)) fun _ => st_op g5 (sz2 rfl) (ne _ _), hb]
          show Res.ok _ _ = Res.ok _ _
          congr 1
          simp
    refine Eq.trans ?_ (rfl : RS.rt (.bl (gapB n hk zs (keysS zs))) S = _)
    have gb : gapB n hk zs (keysS zs) = ((if hk = true then decide ((pl 0 0 zs).head? = some (2 * n - 1)) && decide ((pl 0 0 zs).getLast? = some (2 * n - 1)) else decide (pl 0 0 zs = [])) && (decide ((keysS zs).length = n + sizeS n hk - 2 * n) && (keysS zs).all (lastFirst zs))) := by
      unfold gapB
      rw [decide_eq_true hzl, hr]
      simp [Bool.and_assoc]
    rw [gb]
    generalize (if hk = true then decide ((pl 0 0 zs).head? = some (2 * n - 1)) && decide ((pl 0 0 zs).getLast? = some (2 * n - 1)) else decide (pl 0 0 zs = [])) = B at t5 ⊢
    cases B with
    | false => exact st_seq_rt ((st_if_t t5).trans (st_rt rfl))
    | true =>
      refine (st_seq (st_if_f t5)).trans (st_rt ?_)
      have m1 : (bn2 (mDlen 4) (bn2 (bn2 (mVar 0) (mVar 3) fun x y => lft (dAdd x y)) (bn2 (ret (.int 2)) (mVar 0) fun x y => lft (dMul x y)) fun x y => lft (dSub x y)) fun x y => lft (mB (dEq x y))) ρ S = .ok (.bl (decide ((keysS zs).length = n + sizeS n hk - 2 * n))) S := by
        refine st_op (a := .int ((eK F).length : Nat)) (S1 := S) (by rw [← hρ]; rfl) (st_op (st_op v0 v3 rfl) (st_op (m := ret (.int 2)) rfl v0 (dmul2 n)) rfl) (f := fun x y => mB (dEq x y)) ?_
        rw [size_sub, d_eqi, d_mB]
        congr 2
        rw [← kk, List.length_map, eK, List.length_map]
        exact decide_eq_decide.mpr (by omega)
      refine st_andD m1 (fun hb => ?_) (fun hb => by rw [hb]; rfl)
      rw [hb, Bool.true_and, Bool.true_and]
      have hlc := lc_ok (ρ := [SD.val (.int (n : Nat)), .val (kindD hk), .val (.tup es), .val (.int (sizeS n hk : Nat)), .lckd (eK F), .ownd (eK L), s6, s7]) (S := S) (vs := [7]) (g := gpName 7) (tt := bn2 (bn2 (mDget 5 (mVar 7)) (mDget 4 (mVar 7)) fun x y => lft (dSub x y)) (mVar 7) fun x y => lft (dNe x y)) (te := ret (.int 1))
        (fun z : Int => .int z) (fun z => !lastFirst zs z) (fun _ => .int 1) (fun z => [SD.val (.int (n : Nat)), .val (kindD hk), .val (.tup es), .val (.int (sizeS n hk : Nat)), .lckd (eK F), .ownd (eK L), s6, .val (.int z)]) (keysS zs) fun z hz => ⟨rfl, by
          have hzin := (keysS_mem zs z).mp hz
          unfold lastFirst
          cases hp : pl z 0 zs with
          | nil => exact ((pl_nil.mp hp) hzin).elim
          | cons a t =>
            obtain ⟨b, hb⟩ : ∃ b, (a :: t).getLast? = some b := ⟨_, List.getLast?_eq_some_getLast (by simp)⟩
            have g4 := st_dget (ρ := [SD.val (.int (n : Nat)), .val (kindD hk), .val (.tup es), .val (.int (sizeS n hk : Nat)), .lckd (eK F), .ownd (eK L), s6, .val (.int z)]) (i := 4) (F := F) rfl (m := mVar 7) (S := S) (z := z) (p := a) rfl (by rw [lF, hp]; rfl)
            have g5 := st_dget (ρ := [SD.val (.int (n : Nat)), .val (kindD hk), .val (.tup es), .val (.int (sizeS n hk : Nat)), .lckd (eK F), .ownd (eK L), s6, .val (.int z)]) (i := 5) (F := L) rfl (m := mVar 7) (S := S) (z := z) (p := b) rfl (by rw [lL, hp, hb])
            rw [hb]
            refine st_op (st_op g5 g4 rfl) (n := mVar 7) (b := .int z) rfl ?_
            show (dEq _ _).map _ = _
            rw [d_eqi]
            rfl, fun _ => rfl⟩
      refine st_op (a := .lst (((keysS zs).filter fun z => !lastFirst zs z).map fun _ => .int 1)) (S1 := S) ?_ (n := mLst (ret [])) (b := .lst []) rfl ?_
      · refine (st_bnd (a := ((keysS zs).filter fun z => !lastFirst zs z).map fun _ => D.int 1) (S1 := S) ?_).trans rfl
        rw [← hρ]
        show (match mLc (mKeys 4) [7] (gpName 7) (bn2 (bn2 (mDget 5 (mVar 7)) (mDget 4 (mVar 7)) fun x y => lft (dSub x y)) (mVar 7) fun x y => lft (dNe x y)) (ret (.int 1)) [SD.val (.int (n : Nat)), .val (kindD hk), .val (.tup es), .val (.int (sizeS n hk : Nat)), .lckd (eK F), .ownd (eK L), s6, s7] S with | .ok ds S' => Res.ok ds S' | _ => .bad) = _
        have hks : mKeys 4 [SD.val (.int (n : Nat)), .val (kindD hk), .val (.tup es), .val (.int (sizeS n hk : Nat)), .lckd (eK F), .ownd (eK L), s6, s7] S = .ok ((keysS zs).map fun z => D.int z) S := by
          show Res.ok ((eK F).map (·.1)) S = _
          rw [← kk, eK, List.map_map, List.map_map]
          rfl
        have kl : (keysS zs).length ≤ 16777216 := by
          have := of_decide_eq_true hb
          rw [this]
          have : sizeS n hk ≤ 2 * n + 1 := by unfold sizeS; split <;> omega
          omega
        rw [st_lc hks (by rw [List.length_map]; exact kl) (by
          show (true && (notOwn [s7] 0 && true)) = true
          rw [h7]; rfl) hlc]
      · show mB (dEq _ _) = _
        rw [dEq_ones, filter_empty, d_mB]
        simp
end Pf
end

section
set_option Elab.async false
set_option linter.all false
set_option maxRecDepth 1000000
namespace Pf
open PySem PySem.Spec L2
theorem need_whole_ok {n most : Nat} (h : 1 ≤ n ∧ n ≤ most) (w : D) (S : DS) : f_need_whole [.int (n : Nat), .int 1, .int (most : Nat), w] S = .ok .non S := by
  refine runFn_nx (ρ := [.val (.int (n : Nat)), .val (.int 1), .val (.int (most : Nat)), .val w]) (ρ' := [.val (.int (n : Nat)), .val (.int 1), .val (.int (most : Nat)), .val w]) rfl ?_
  refine (st_if_f (S1 := S) ?_).trans rfl
  have h1 : (mNotT (bnd (mCall 1 (mCons (mVar 0) (ret [])) f_is_whole) asB)) [.val (.int (n : Nat)), .val (.int 1), .val (.int (most : Nat)), .val w] S = .ok false S := rfl
  refine (st_or_f h1).trans ?_
  have h2 : (mAndT (bn2 (mVar 1) (ret .non) fun x y => lft (dIsNot x y)) (bn2 (mVar 0) (mVar 1) fun x y => lft (dLt x y))) [.val (.int (n : Nat)), .val (.int 1), .val (.int (most : Nat)), .val w] S = .ok false S :=
    (st_and_t (S1 := S) rfl).trans (st_op (a := .int (n : Nat)) (b := .int 1) rfl rfl (by rw [d_lti, decide_eq_false (by omega)]))
  refine (st_or_f h2).trans ?_
  exact (st_and_t (S1 := S) rfl).trans (st_op (a := .int (n : Nat)) (b := .int (most : Nat)) rfl rfl (by rw [d_gti, decide_eq_false (by omega)]))
theorem need_gaps_ok {n most : Nat} (h : 1 ≤ n ∧ n ≤ most) (hk : Bool) (S : DS) : f_need_gaps [.int (n : Nat), .int (most : Nat), kindD hk] S = .ok .non S := by
  refine runFn_nx (ρ := [.val (.int (n : Nat)), .val (.int (most : Nat)), .val (kindD hk)]) (ρ' := [.val (.int (n : Nat)), .val (.int (most : Nat)), .val (kindD hk)]) rfl ?_
  refine (st_seq (st_drop ((st_call (ds := [.int (n : Nat), .int 1, .int (most : Nat), .str "n"]) (S1 := S) rfl rfl).trans (need_whole_ok h _ S)))).trans ?_
  refine (st_if_f (S1 := S) ?_).trans rfl
  refine (st_or_f (S1 := S) rfl).trans ?_
  refine st_op (a := kindD hk) (b := .tup [.str "whole", .str "hooked"]) rfl rfl ?_
  cases hk <;> decide +kernel
theorem is_gap_row_ok {n : Nat} {hk : Bool} {v : D} (hn : 1 ≤ n ∧ n ≤ 40) (hv : (∃ es, v = .tup es ∧ es.all entB = true ∧ es.length ≤ 1000) ∨ ∃ es, v = .lst es) (S : DS) :
    f_is_gap_row [.int (n : Nat), kindD hk, v] S = .ok (.bl (rowV n hk v)) S := by
  refine runFn_rt (ρ := [.val (.int (n : Nat)), .val (kindD hk), .val v]) rfl ?_
  refine (st_seq (st_drop ((st_call (ds := [.int (n : Nat), .int 40, kindD hk]) (S1 := S) rfl rfl).trans (need_gaps_ok (most := 40) hn hk S)))).trans ?_
  exact st_rt ((st_call (ds := [.int (n : Nat), kindD hk, v]) (S1 := S) rfl rfl).trans (is_row_of_ok ⟨hn.1, by omega⟩ hv S))
/-! ### one row of each size -/
def condB (n : Nat) (hk : Bool) : Bool := decide (n % 4 ≤ 1) == !hk
def chkRow (n : Nat) (hk : Bool) : Bool := match f_gap_row [.int (n : Nat), kindD hk] dsNil with
  | .ok .non _ => !condB n hk
  | .ok (.tup es) _ => condB n hk && (intsD es).isSome && rowV n hk (.tup es) && decide (es.length ≤ 200) && !es.isEmpty
  | _ => false
theorem chk_rows : ∀ n : Fin 41, 1 ≤ n.val → ∀ hk : Bool, chkRow n.val hk = true := by decide +kernel
theorem gap_row_ok {n : Nat} (hn : 1 ≤ n ∧ n ≤ 40) (hk : Bool) : (condB n hk = false ∧ ∀ S, f_gap_row [.int (n : Nat), kindD hk] S = .ok .non S) ∨
    ∃ zs, condB n hk = true ∧ zs ≠ [] ∧ zs.length ≤ 200 ∧ rowV n hk (.tup (zs.map D.int)) = true ∧ ∀ S, f_gap_row [.int (n : Nat), kindD hk] S = .ok (.tup (zs.map D.int)) S := by
  have h := chk_rows ⟨n, by omega⟩ hn.1 hk
  unfold chkRow at h
  dsimp only at h
  split at h
  · rename_i e
    exact .inl ⟨by simpa using h, fun S => PuF.at e S⟩
  · rename_i es _ e
    simp only [Bool.and_eq_true, decide_eq_true_eq] at h
    obtain ⟨⟨⟨⟨h1, h2⟩, h3⟩, h4⟩, h5⟩ := h
    obtain ⟨zs, hz⟩ := Option.isSome_iff_exists.mp h2
    have hes := ints_map hz
    subst hes
    rw [List.length_map] at h4
    refine .inr ⟨zs, h1, ?_, h4, h3, fun S => PuF.at e S⟩
    rintro rfl
    cases h5
  · cases h
end Pf
end

section
set_option Elab.async false
set_option linter.all false
set_option maxRecDepth 100000
namespace Pf
open PySem PySem.Spec L2
theorem draw_m {ρ : En} {S : DS} {m : Nat} {ms : M (List D)} {r : Int} (h : ms ρ S = .ok [.drw, .int r] S) (hS : DOk (m + 1) S) (h0 : 0 < r) (h1 : r < 2 ^ 30) :
    ∃ x S', mCall 2 ms f__law_draw ρ S = .ok (.int x) S' ∧ 0 ≤ x ∧ x < r ∧ DOk m S' := by
  obtain ⟨x, S', e, h2, h3, h4⟩ := draw_ok hS h0 h1
  exact ⟨x, S', (st_call h rfl).trans e, h2, h3, h4⟩
theorem draw_n {ρ : En} {S : DS} {m r : Nat} {ms : M (List D)} (h : ms ρ S = .ok [.drw, .int (r : Nat)] S) (hS : DOk (m + 1) S) (h0 : 0 < r) (h1 : r < 2 ^ 30) :
    ∃ (x : Nat) (S' : DS), mCall 2 ms f__law_draw ρ S = .ok (.int (x : Nat)) S' ∧ x < r ∧ DOk m S' := by
  obtain ⟨x, S', e, h2, h3, h4⟩ := draw_m h hS (by omega) (by omega)
  refine ⟨x.toNat, S', ?_, by omega, h4⟩
  rw [e, show ((x.toNat : Nat) : Int) = x by omega]
theorem pick_m {ρ : En} {S : DS} {m : Nat} {ms : M (List D)} {ds : List D} (h : ms ρ S = .ok [.drw, .lst ds] S) (hS : DOk (m + 1) S) (h0 : ds ≠ []) (h1 : ds.length < 2 ^ 30) :
    ∃ d S', d ∈ ds ∧ mCall 2 ms f__law_pick ρ S = .ok d S' ∧ DOk m S' := by
  obtain ⟨x, S', e, h2, h3⟩ := pick_ok hS h0 h1
  exact ⟨x, S', e, (st_call h rfl).trans h2, h3⟩
theorem toPs_ints : ∀ zs : List Int, toPs (zs.map D.int) = some (zs.map PyData.int)
  | [] => by simp [toPs]
  | z :: zs => by simp only [List.map_cons, toPs, toP, toPs_ints zs]
theorem lay_ints : ∀ zs : List Int, PyData.canLayAll0 (zs.map PyData.int) = true ∧ PyData.depthAll (zs.map PyData.int) = 0
  | [] => by simp [PyData.canLayAll0, PyData.depthAll]
  | z :: zs => by
    obtain ⟨h1, h2⟩ := lay_ints zs
    simp [PyData.canLayAll0, PyData.depthAll, h1, h2, PyData.canLay0, PyData.depth]
theorem dEq_ints_nil (zs : List Int) : dEq (.lst (zs.map D.int)) (.lst []) = some zs.isEmpty := by
  have t1 : toP (.lst (zs.map D.int)) = some (.list (zs.map PyData.int)) := by simp [toP, toPs_ints]
  have t2 : toP (.lst []) = some (.list []) := by simp [toP, toPs]
  have t3 : SeqAt.shaped (.list (zs.map PyData.int)) = true := by
    obtain ⟨h1, h2⟩ := lay_ints zs
    show (PyData.canLayAll0 _ && decide (PyData.depthAll _ + 1 ≤ 64)) = true
    rw [h1, h2]; rfl
  simp only [dEq, t1, t2, t3, show SeqAt.shaped (.list []) = true by decide, and_self, if_true, PyData.eqv]
  cases zs <;> simp [PyData.eqvAll]
theorem ent_ints (zs : List Int) : (zs.map D.int).all entB = true := by
  rw [List.all_map, List.all_eq_true]; exact fun _ _ => rfl
/-- a value that the two laws can be asked of -/
def Val (v : D) : Prop := (∃ es, v = .tup es ∧ es.all entB = true ∧ es.length ≤ 1000) ∨ ∃ es, v = .lst es
theorem ixN_nat {n j : Nat} (h : j < n) : ixN n (j : Int) = some j := by
  unfold ixN
  rw [if_pos (by omega), if_pos (by omega)]
  simp
theorem all_set {l : List D} {i : Nat} {d : D} (h : l.all entB = true) (hd : entB d = true) : (l.set i d).all entB = true := by
  rw [List.all_eq_true] at h ⊢
  intro x hx
  rcases List.mem_or_eq_of_mem_set hx with hx | hx
  · exact h x hx
  · rw [hx]; exact hd
theorem st_it {ρ : En} {S S1 : DS} {i j : Nat} {mi : M D} {ds : List D} {d : D} (e : ρ[i]? = some (.own ds)) (h : mi ρ S = .ok (.int (j : Nat)) S1) (hj : j < ds.length) : gIt i mi d ρ S = .nx (ρ.set i (.own (ds.set j d))) S1 := by
  unfold gIt
  rw [e]
  dsimp only
  rw [st_sE h]
  dsimp only
  rw [ixN_nat hj]
theorem st_tg {m : MS} {ρ ρ' : En} {S S1 : DS} (h : m ρ S = .nx ρ' S1) : sTg m ρ S = .nx ρ' S1 := by unfold sTg; rw [h]
theorem bent_ok {zs : List Int} {odd : List D} {m : Nat} {S : DS} (hS : DOk (m + 4) S) (hz : zs ≠ []) (hl : zs.length ≤ 200) (ho : odd ≠ []) (hol : odd.length ≤ 1000) (hoe : odd.all entB = true) :
    ∃ v S', f__law_bent_list [.drw, .tup (zs.map D.int), .lst odd] S = .ok v S' ∧ DOk m S' ∧ Val v := by
  have hpos : 0 < zs.length := List.length_pos_iff.mpr hz
  obtain ⟨way, S1, e1, _, h1⟩ := draw_n (ρ := [.val .drw, .val (.tup (zs.map D.int)), .val (.lst odd), .no, .no, .no, .no]) (r := 6) (ms := mCons (mVar 0) (mCons (ret (.int 6)) (ret []))) rfl (m := m + 3) hS (by omega) (by omega)
  have b0 : mTwo (mVal (mCall 2 (mCons (mVar 0) (mCons (ret (.int 6)) (ret []))) f__law_draw)) (mOwnL (bnd (mVar 1) asL)) 3 4 [.val .drw, .val (.tup (zs.map D.int)), .val (.lst odd), .no, .no, .no, .no] S
      = .nx [.val .drw, .val (.tup (zs.map D.int)), .val (.lst odd), .val (.int (way : Nat)), .own (zs.map D.int), .no, .no] S1 :=
    (st_two ((st_bnd e1).trans rfl) (t := .own (zs.map D.int)) (S2 := S1) rfl (by simp)).trans rfl
  have fin : ∀ v S', DOk m S' → Val v → b__law_bent_list [.val .drw, .val (.tup (zs.map D.int)), .val (.lst odd), .no, .no, .no, .no] S = .rt v S' →
      ∃ v S', f__law_bent_list [.drw, .tup (zs.map D.int), .lst odd] S = .ok v S' ∧ DOk m S' ∧ Val v := fun v S' d hv h => ⟨v, S', runFn_rt rfl h, d, hv⟩
  have eqw : ∀ (k : Nat) (ρ : En) (S : DS), mVar 3 ρ S = .ok (.int (way : Nat)) S → (bn2 (mVar 3) (ret (.int (k : Nat))) fun x y => lft (dEq x y)) ρ S = .ok (decide (way = k)) S := fun k ρ S h => by
    refine st_op h (n := ret (.int (k : Nat))) rfl ?_
    rw [d_eqi]
    congr 1
    exact decide_eq_decide.mpr (by omega)
  -- way 0
  by_cases w0 : way = 0
  · refine fin _ S1 (h1.less (by omega)) (.inr ⟨zs.map D.int, rfl⟩) ?_
    refine (st_seq b0).trans (st_seq_rt ((st_if_t ((eqw 0 _ _ rfl).trans (by rw [decide_eq_true w0]))).trans (st_rt (m := mOwn 4) rfl)))
  have c0 : ∀ b : MS, sSeq (sIf (bn2 (mVar 3) (ret (.int 0)) fun x y => lft (dEq x y)) (sE (mOwn 4) sRt) sNil) b [.val .drw, .val (.tup (zs.map D.int)), .val (.lst odd), .val (.int (way : Nat)), .own (zs.map D.int), .no, .no] S1 = b [.val .drw, .val (.tup (zs.map D.int)), .val (.lst odd), .val (.int (way : Nat)), .own (zs.map D.int), .no, .no] S1 := fun b =>
    st_seq ((st_if_f ((eqw 0 _ _ rfl).trans (by rw [decide_eq_false w0]))).trans rfl)
  have c1 : (mOrT (bn2 (mVar 3) (ret (.int 1)) fun x y => lft (dEq x y)) (bn2 (mOwn 4) (mLst (ret [])) fun x y => lft (dEq x y))) [.val .drw, .val (.tup (zs.map D.int)), .val (.lst odd), .val (.int (way : Nat)), .own (zs.map D.int), .no, .no] S1 = .ok (decide (way = 1)) S1 := by
    have he : zs.isEmpty = false := by
      cases zs with
      | nil => exact (hz rfl).elim
      | cons => rfl
    refine (st_or (eqw 1 _ S1 rfl) fun _ => st_op (S1 := S1) (S2 := S1) (m := mOwn 4) (a := .lst (zs.map D.int)) rfl (n := mLst (ret [])) (b := .lst []) rfl (dEq_ints_nil zs)).trans ?_
    rw [he, Bool.or_false]
  by_cases w1 : way = 1
  · obtain ⟨d, S2, hd, e2, h2⟩ := pick_m (ρ := [.val .drw, .val (.tup (zs.map D.int)), .val (.lst odd), .val (.int (way : Nat)), .own (zs.map D.int), .no, .no]) (ms := mCons (mVar 0) (mCons (mVar 2) (ret []))) (ds := odd) rfl (m := m + 2) h1 ho (by omega)
    refine fin (.tup (zs.map D.int ++ [d])) S2 (h2.less (by omega)) (.inl ⟨_, rfl, ?_, by simp; omega⟩) ?_
    · rw [List.all_append, ent_ints, List.all_cons, List.all_eq_true.mp hoe d hd]; rfl
    refine (st_seq b0).trans ((c0 _).trans (st_seq_rt ((st_if_t (c1.trans (by rw [decide_eq_true w1]))).trans (st_rt (st_b1 (a := .lst (zs.map D.int ++ [d])) (st_op (a := .lst (zs.map D.int)) (S1 := S1) rfl (st_lst (st_cons e2 rfl) (by simp)) ?_) rfl)))))
    show (if _ then _ else _) = _
    rw [if_pos]
    have : 4000 ≤ sizeLine := by decide
    simp only [List.length_map, List.length_cons, List.length_nil]
    omega
  obtain ⟨here, S2, e2, hh, h2⟩ := draw_n (ρ := [.val .drw, .val (.tup (zs.map D.int)), .val (.lst odd), .val (.int (way : Nat)), .own (zs.map D.int), .no, .no]) (r := zs.length) (S := S1) (ms := mCons (mVar 0) (mCons (mB1 (mOwn 4) dLen) (ret []))) (by
    refine st_cons (d := .drw) rfl (st_cons (d := .int (zs.length : Nat)) ?_ rfl)
    refine st_b1 (a := .lst (zs.map D.int)) rfl ?_
    show some (D.int _) = _
    rw [List.length_map]) (m := m + 2) h1 hpos (by omega)
  obtain ⟨there, S3, e3, ht, h3⟩ := draw_n (ρ := [.val .drw, .val (.tup (zs.map D.int)), .val (.lst odd), .val (.int (way : Nat)), .own (zs.map D.int), .no, .no]) (r := zs.length) (S := S2) (ms := mCons (mVar 0) (mCons (mB1 (mOwn 4) dLen) (ret []))) (by
    refine st_cons (d := .drw) rfl (st_cons (d := .int (zs.length : Nat)) ?_ rfl)
    refine st_b1 (a := .lst (zs.map D.int)) rfl ?_
    show some (D.int _) = _
    rw [List.length_map]) (m := m + 1) h2 hpos (by omega)
  have b1 : mTwo (mVal (mCall 2 (mCons (mVar 0) (mCons (mB1 (mOwn 4) dLen) (ret []))) f__law_draw)) (mVal (mCall 2 (mCons (mVar 0) (mCons (mB1 (mOwn 4) dLen) (ret []))) f__law_draw)) 5 6 [.val .drw, .val (.tup (zs.map D.int)), .val (.lst odd), .val (.int (way : Nat)), .own (zs.map D.int), .no, .no] S1
      = .nx [.val .drw, .val (.tup (zs.map D.int)), .val (.lst odd), .val (.int (way : Nat)), .own (zs.map D.int), .val (.int (here : Nat)), .val (.int (there : Nat))] S3 :=
    (st_two ((st_bnd e2).trans rfl) ((st_bnd e3).trans rfl) (by simp)).trans rfl
  have go : ∀ (b : MS) (r : RS), b [.val .drw, .val (.tup (zs.map D.int)), .val (.lst odd), .val (.int (way : Nat)), .own (zs.map D.int), .val (.int (here : Nat)), .val (.int (there : Nat))] S3 = r →
      (sSeq (mTwo (mVal (mCall 2 (mCons (mVar 0) (mCons (ret (.int 6)) (ret []))) f__law_draw)) (mOwnL (bnd (mVar 1) asL)) 3 4)
      (sSeq (sIf (bn2 (mVar 3) (ret (.int 0)) fun x y => lft (dEq x y)) (sE (mOwn 4) sRt) sNil)
      (sSeq (sIf (mOrT (bn2 (mVar 3) (ret (.int 1)) fun x y => lft (dEq x y)) (bn2 (mOwn 4) (mLst (ret [])) fun x y => lft (dEq x y))) (sE (mB1 (bn2 (mOwn 4) (mLst (mCons (mCall 2 (mCons (mVar 0) (mCons (mVar 2) (ret []))) f__law_pick) (ret []))) fun x y => lft (dAdd x y)) dTuple) sRt) sNil)
      (sSeq (mTwo (mVal (mCall 2 (mCons (mVar 0) (mCons (mB1 (mOwn 4) dLen) (ret []))) f__law_draw)) (mVal (mCall 2 (mCons (mVar 0) (mCons (mB1 (mOwn 4) dLen) (ret []))) f__law_draw)) 5 6) b)))) [.val .drw, .val (.tup (zs.map D.int)), .val (.lst odd), .no, .no, .no, .no] S = r := fun b r h =>
    (st_seq b0).trans ((c0 _).trans ((st_seq ((st_if_f (c1.trans (by rw [decide_eq_false w1]))).trans rfl)).trans ((st_seq b1).trans h)))
  have hzl : (zs.map D.int).length = zs.length := List.length_map _
  by_cases w2 : way = 2
  · refine fin (.tup ((zs.map D.int).take here ++ (zs.map D.int).drop (here + 1))) S3 (h3.less (by omega)) (.inl ⟨_, rfl, ?_, by simp only [List.length_append, List.length_take, List.length_drop, List.length_map]; omega⟩) (go _ _ ?_)
    · rw [← List.map_take, ← List.map_drop, List.all_append, ent_ints, ent_ints]; rfl
    refine st_seq_rt ((st_if_t ((eqw 2 _ _ rfl).trans (by rw [decide_eq_true w2]))).trans (st_rt (st_b1 (a := .lst ((zs.map D.int).take here ++ (zs.map D.int).drop (here + 1))) (st_op (a := .lst ((zs.map D.int).take here)) (b := .lst ((zs.map D.int).drop (here + 1))) (S1 := S3) (S2 := S3) ?_ ?_ ?_) rfl)))
    · exact st_sl (m := mOwn 4) (x := .lst (zs.map D.int)) rfl (ml := ret none) rfl (st_part (m := mVar 5) (i := (here : Nat)) rfl) (by show some _ = some _; rw [cut_to])
    · refine st_sl (m := mOwn 4) (x := .lst (zs.map D.int)) rfl (st_part (i := ((here + 1 : Nat) : Int)) (st_op (m := mVar 5) (a := .int (here : Nat)) rfl (n := ret (.int 1)) rfl rfl)) (mh := ret none) rfl (by show some _ = some _; rw [cut_from])
    · show (if _ then _ else _) = _
      rw [if_pos]
      have : 4000 ≤ sizeLine := by decide
      simp only [List.length_take, List.length_drop, List.length_map]
      omega
  have c2 := (eqw 2 [.val .drw, .val (.tup (zs.map D.int)), .val (.lst odd), .val (.int (way : Nat)), .own (zs.map D.int), .val (.int (here : Nat)), .val (.int (there : Nat))] S3 rfl).trans (by rw [decide_eq_false w2])
  by_cases w3 : way = 3
  · refine fin (.tup (((zs.map D.int).set here ((zs.map D.int)[there]'(by omega))).set there ((zs.map D.int)[here]'(by omega)))) S3 (h3.less (by omega)) (.inl ⟨_, rfl, ?_, by simp only [List.length_set, List.length_map]; omega⟩) (go _ _ ?_)
    · refine all_set (all_set (ent_ints zs) ?_) ?_ <;> simp [entB]
    refine (st_seq ((st_if_f c2).trans rfl)).trans (st_seq_rt ((st_if_t ((eqw 3 _ _ rfl).trans (by rw [decide_eq_true w3]))).trans ?_))
    have e4 : mTup (mCons (bn2 (mOwn 4) (mVar 6) fun x y => lft (dIx x y)) (mCons (bn2 (mOwn 4) (mVar 5) fun x y => lft (dIx x y)) (ret []))) [.val .drw, .val (.tup (zs.map D.int)), .val (.lst odd), .val (.int (way : Nat)), .own (zs.map D.int), .val (.int (here : Nat)), .val (.int (there : Nat))] S3 = .ok (.tup [(zs.map D.int)[there]'(by omega), (zs.map D.int)[here]'(by omega)]) S3 := by
      refine st_tup (st_cons (st_op (m := mOwn 4) (a := .lst (zs.map D.int)) (n := mVar 6) (b := .int (there : Nat)) rfl rfl ?_) (st_cons (st_op (m := mOwn 4) (a := .lst (zs.map D.int)) (n := mVar 5) (b := .int (here : Nat)) rfl rfl ?_) rfl)) (by simp)
      · show atI _ _ = _
        rw [atI_nat, List.getElem?_eq_getElem (by omega)]
      · show atI _ _ = _
        rw [atI_nat, List.getElem?_eq_getElem (by omega)]
    refine (st_seq (ρ' := [.val .drw, .val (.tup (zs.map D.int)), .val (.lst odd), .val (.int (way : Nat)), .own (((zs.map D.int).set here ((zs.map D.int)[there]'(by omega))).set there ((zs.map D.int)[here]'(by omega))), .val (.int (here : Nat)), .val (.int (there : Nat))]) (S1 := S3) ((st_sE e4).trans ((st_seq (st_tg ?_)).trans rfl))).trans (st_rt (st_b1 (m := mOwn 4) (a := .lst (((zs.map D.int).set here ((zs.map D.int)[there]'(by omega))).set there ((zs.map D.int)[here]'(by omega)))) rfl rfl))
    show sSeq (gIt 4 (mVar 5) _) (sSeq (gIt 4 (mVar 6) _) sNil) _ _ = _
    refine (st_seq (st_it (ds := zs.map D.int) (j := here) rfl rfl (by omega))).trans ?_
    exact (st_seq (st_it (ds := (zs.map D.int).set here _) (j := there) rfl rfl (by rw [List.length_set]; omega))).trans rfl
  have c3 := (eqw 3 [.val .drw, .val (.tup (zs.map D.int)), .val (.lst odd), .val (.int (way : Nat)), .own (zs.map D.int), .val (.int (here : Nat)), .val (.int (there : Nat))] S3 rfl).trans (by rw [decide_eq_false w3])
  obtain ⟨d, S4, hd, e4, h4⟩ := pick_m (ρ := [.val .drw, .val (.tup (zs.map D.int)), .val (.lst odd), .val (.int (way : Nat)), .own (zs.map D.int), .val (.int (here : Nat)), .val (.int (there : Nat))]) (ms := mCons (mVar 0) (mCons (mVar 2) (ret []))) (ds := odd) rfl (m := m) h3 ho (by omega)
  refine fin (.tup ((zs.map D.int).set here d)) S4 h4 (.inl ⟨_, rfl, all_set (ent_ints zs) (List.all_eq_true.mp hoe d hd), by rw [List.length_set]; omega⟩) (go _ _ ?_)
  refine (st_seq ((st_if_f c2).trans rfl)).trans ((st_seq ((st_if_f c3).trans rfl)).trans ?_)
  refine (st_seq (ρ' := [.val .drw, .val (.tup (zs.map D.int)), .val (.lst odd), .val (.int (way : Nat)), .own ((zs.map D.int).set here d), .val (.int (here : Nat)), .val (.int (there : Nat))]) (S1 := S4) ((st_sE e4).trans ((st_seq (st_tg (st_it (ds := zs.map D.int) (j := here) rfl rfl (by omega)))).trans rfl))).trans (st_rt (st_b1 (m := mOwn 4) (a := .lst ((zs.map D.int).set here d)) rfl rfl))
end Pf
end

section
set_option Elab.async false
set_option linter.all false
set_option maxRecDepth 100000
namespace Pf
open PySem PySem.Spec L2
def oddL (n : Nat) : List D := [.non, .bl true, .bl false, .int (-1), .int 0, .int 1, .int 2, .int 3, .int (n : Nat), .int ((n : Int) + 1), .str "1", .tup [.int 1]]
theorem truth_ok (b : Bool) (S : DS) : f__law_is_truth [.bl b, .bl b] S = .ok (.bl true) S := by cases b <;> rfl
def rowR (R : Bool) (zs : List Int) : D := if R = true then .tup (zs.map D.int) else .non
theorem row_isnot (R : Bool) (zs : List Int) : dIsNot (rowR R zs) .non = some R := by cases R <;> rfl
section
variable {n : Nat} {hk R : Bool} {zs : List Int} {S : DS}
abbrev rhoT (n : Nat) (hk R : Bool) (zs : List Int) (s5 s6 : SD) : En := [.val .drw, .val (.int (n : Nat)), .val (kindD hk), .val (rowR R zs), .val (.tup (zs.map D.int)), s5, s6]
abbrev toldB : MS := (sSeq (sE (mCall 3 (mCons (mVar 0) (mCons (mVar 4) (mCons (mLst (mCons (ret .non) (mCons (ret (.bl true)) (mCons (ret (.bl false)) (mCons (mB1 (ret (.int 1)) dNeg) (mCons (ret (.int 0)) (mCons (ret (.int 1)) (mCons (ret (.int 2)) (mCons (ret (.int 3)) (mCons (mVar 1) (mCons (bn2 (mVar 1) (ret (.int 1)) fun x y => lft (dAdd x y)) (mCons (ret (.str "1")) (mCons (mTup (mCons (ret (.int 1)) (ret []))) (ret [])))))))))))))) (ret [])))) f__law_bent_list) (sSet 6))
  (sSeq (sIf (mAndT (bn2 (mVar 5) (ret (.int 0)) fun x y => lft (dEq x y)) (bn2 (mVar 3) (ret .non) fun x y => lft (dIsNot x y))) (sE (mB1 (mVar 3) dRevTuple) (sSet 6)) sNil)
  (sIf (mNotT (bnd (mCall 2 (mCons (mCallK [2, 1, 0] (mCons (mVar 6) (mCons (mVar 2) (mCons (mVar 1) (ret [])))) f_is_gap_row) (mCons (mCall 3 (mCons (mVar 1) (mCons (mVar 2) (mCons (mVar 6) (ret [])))) f__law_is_gap) (ret []))) f__law_is_truth) asB)) (sE (ret (.bl false)) sRt) sNil)))
theorem both_ok {v : D} {s5 : SD} (hn : 1 ≤ n ∧ n ≤ 40) (hv : Val v) :
    (sIf (mNotT (bnd (mCall 2 (mCons (mCallK [2, 1, 0] (mCons (mVar 6) (mCons (mVar 2) (mCons (mVar 1) (ret [])))) f_is_gap_row) (mCons (mCall 3 (mCons (mVar 1) (mCons (mVar 2) (mCons (mVar 6) (ret [])))) f__law_is_gap) (ret []))) f__law_is_truth) asB)) (sE (ret (.bl false)) sRt) sNil) (rhoT n hk R zs s5 (.val v)) S
      = .nx (rhoT n hk R zs s5 (.val v)) S := by
  have e1 : mCallK [2, 1, 0] (mCons (mVar 6) (mCons (mVar 2) (mCons (mVar 1) (ret [])))) f_is_gap_row (rhoT n hk R zs s5 (.val v)) S = .ok (.bl (rowV n hk v)) S := (is_gap_row_ok (n := n) (hk := hk) (v := v) hn hv S)
  have e2 : mCall 3 (mCons (mVar 1) (mCons (mVar 2) (mCons (mVar 6) (ret [])))) f__law_is_gap (rhoT n hk R zs s5 (.val v)) S = .ok (.bl (rowV n hk v)) S := (is_gap_ok (n := n) (hk := hk) (v := v) ⟨hn.1, by omega⟩ hv S)
  exact (st_if_f (st_not (k := true) (st_asB ((st_call (st_cons e1 (st_cons e2 rfl)) rfl).trans (truth_ok _ S))))).trans rfl
theorem laps_ok {m : Nat} (hn : 1 ≤ n ∧ n ≤ 40) (hz : zs ≠ []) (hl : zs.length ≤ 200) : ∀ (l : List Nat) (s5 s6 : SD) (S : DS), notOwn [s5] 0 = true → DOk (4 * l.length + m) S →
    ∃ s5' s6' S', forLoop (gpName 5) toldB (l.map fun k : Nat => D.int (k : Nat)) (rhoT n hk R zs s5 s6) S = .nx (rhoT n hk R zs s5' s6') S' ∧ DOk m S'
  | [], s5, s6, S, _, hS => ⟨s5, s6, S, rfl, hS.less (by omega)⟩
  | k :: l, s5, s6, S, h5, hS => by
    have hg : gpName 5 (.int (k : Nat)) (rhoT n hk R zs s5 s6) = some (rhoT n hk R zs (.val (.int (k : Nat))) s6) := by
      show (if notOwn [s5] 0 = true then _ else _) = _
      rw [if_pos h5]; rfl
    rw [List.length_cons] at hS
    obtain ⟨v, S1, e1, h1, hv⟩ := bent_ok (zs := zs) (odd := oddL n) (m := 4 * l.length + m) (S := S) (hS.less (by omega)) hz hl (by simp [oddL]) (by simp [oddL]) rfl
    have b1 : sE (mCall 3 (mCons (mVar 0) (mCons (mVar 4) (mCons (mLst (mCons (ret .non) (mCons (ret (.bl true)) (mCons (ret (.bl false)) (mCons (mB1 (ret (.int 1)) dNeg) (mCons (ret (.int 0)) (mCons (ret (.int 1)) (mCons (ret (.int 2)) (mCons (ret (.int 3)) (mCons (mVar 1) (mCons (bn2 (mVar 1) (ret (.int 1)) fun x y => lft (dAdd x y)) (mCons (ret (.str "1")) (mCons (mTup (mCons (ret (.int 1)) (ret []))) (ret [])))))))))))))) (ret [])))) f__law_bent_list) (sSet 6) (rhoT n hk R zs (.val (.int (k : Nat))) s6) S = .nx (rhoT n hk R zs (.val (.int (k : Nat))) (.val v)) S1 :=
      (st_set ((st_call (ds := [.drw, .tup (zs.map D.int), .lst (oddL n)]) (S1 := S) rfl rfl).trans e1)).trans rfl
    have b2 : ∃ v', Val v' ∧ (sIf (mAndT (bn2 (mVar 5) (ret (.int 0)) fun x y => lft (dEq x y)) (bn2 (mVar 3) (ret .non) fun x y => lft (dIsNot x y))) (sE (mB1 (mVar 3) dRevTuple) (sSet 6)) sNil) (rhoT n hk R zs (.val (.int (k : Nat))) (.val v)) S1 = .nx (rhoT n hk R zs (.val (.int (k : Nat))) (.val v')) S1 := by
      have t1 : (bn2 (mVar 5) (ret (.int 0)) fun x y => lft (dEq x y)) (rhoT n hk R zs (.val (.int (k : Nat))) (.val v)) S1 = .ok (decide ((k : Int) = 0)) S1 := rfl
      have t2 : (bn2 (mVar 3) (ret .non) fun x y => lft (dIsNot x y)) (rhoT n hk R zs (.val (.int (k : Nat))) (.val v)) S1 = .ok R S1 := st_op (m := mVar 3) (n := ret .non) rfl rfl (row_isnot R zs)
      have t := st_and t1 fun _ => t2
      cases hb : decide ((k : Int) = 0) && R with
      | false =>
        rw [hb] at t
        exact ⟨v, hv, (st_if_f t).trans rfl⟩
      | true =>
        rw [hb] at t
        have hR : R = true := by
          cases R with
          | true => rfl
          | false => rw [Bool.and_false] at hb; cases hb
        subst hR
        refine ⟨.tup (zs.map D.int).reverse, .inl ⟨_, rfl, ?_, by simp; omega⟩, (st_if_t t).trans ((st_set (ρ := rhoT n hk true zs (.val (.int (k : Nat))) (.val v)) (S := S1) (S1 := S1) (st_b1 (f := dRevTuple) (d := .tup (zs.map D.int).reverse) (m := mVar 3) (a := .tup (zs.map D.int)) rfl rfl)).trans rfl)⟩
        rw [← List.map_reverse]; exact ent_ints _
    obtain ⟨v', hv', b2⟩ := b2
    have b : toldB (rhoT n hk R zs (.val (.int (k : Nat))) s6) S = .nx (rhoT n hk R zs (.val (.int (k : Nat))) (.val v')) S1 := (st_seq b1).trans ((st_seq b2).trans (both_ok hn hv'))
    rw [List.map_cons, st_for_nx hg b]
    exact laps_ok hn hz hl l _ _ S1 rfl h1
end
theorem in01 : ∀ r : Nat, r < 4 → dIn (.int (r : Nat)) (.lst [.int 0, .int 1]) = some (decide (r ≤ 1))
  | 0, _ => by decide +kernel
  | 1, _ => by decide +kernel
  | 2, _ => by decide +kernel
  | 3, _ => by decide +kernel
  | n + 4, h => absurd h (by omega)
def restS (n : Nat) (hk : Bool) : Nat := if hk = true then 2 * n - 1 else 2 * n - 2
theorem flat0 : ∀ n : Nat, (List.replicate n [D.int 0]).flatten = (List.replicate n (0 : Int)).map D.int
  | 0 => rfl
  | n + 1 => by rw [List.replicate_succ, List.replicate_succ, List.flatten_cons, flat0 n]; rfl
theorem dmul_lst (xs : List D) (k : Int) : dMul (.lst xs) (.int k) = if -(2 ^ 63) ≤ k ∧ k < 2 ^ 63 ∧ xs.length * k.toNat ≤ sizeLine then some (.lst (List.replicate k.toNat xs).flatten) else none := rfl
theorem told_ok {n m : Nat} {hk : Bool} {S : DS} (hn : 1 ≤ n ∧ n ≤ 40) (hS : DOk (m + 20) S) : ∃ S', f__law_told [.drw, .int (n : Nat), kindD hk] S = .ok (.bl true) S' ∧ DOk m S' := by
  obtain ⟨R, zs0, hc, hz0, hg, hrow⟩ : ∃ R zs0, condB n hk = R ∧ (R = true → zs0 ≠ [] ∧ zs0.length ≤ 200) ∧ (∀ S, f_gap_row [.int (n : Nat), kindD hk] S = .ok (rowR R zs0) S) ∧ (R = true → rowV n hk (.tup (zs0.map D.int)) = true) := by
    rcases gap_row_ok hn hk with ⟨h1, h2⟩ | ⟨zs, h1, h2, h3, h4, h5⟩
    · exact ⟨false, [], h1, fun h => (Bool.false_ne_true h).elim, h2, fun h => (Bool.false_ne_true h).elim⟩
    · exact ⟨true, zs, h1, fun _ => ⟨h2, h3⟩, h5, fun _ => h4⟩
  have fin : ∀ S', DOk m S' → b__law_told [.val .drw, .val (.int (n : Nat)), .val (kindD hk), .no, .no, .no, .no] S = .rt (.bl true) S' → ∃ S', f__law_told [.drw, .int (n : Nat), kindD hk] S = .ok (.bl true) S' ∧ DOk m S' := fun S' d h => ⟨S', runFn_rt rfl h, d⟩
  have b1 : sE (mCall 2 (mCons (mVar 1) (mCons (mVar 2) (ret []))) f_gap_row) (sSet 3) [.val .drw, .val (.int (n : Nat)), .val (kindD hk), .no, .no, .no, .no] S = .nx [.val .drw, .val (.int (n : Nat)), .val (kindD hk), .val (rowR R zs0), .no, .no, .no] S :=
    (st_set ((st_call (ds := [.int (n : Nat), kindD hk]) (S1 := S) rfl rfl).trans (hg S))).trans rfl
  have r0 : (bn2 (mVar 3) (ret .non) fun x y => lft (mB (dIsNot x y))) [.val .drw, .val (.int (n : Nat)), .val (kindD hk), .val (rowR R zs0), .no, .no, .no] S = .ok (.bl R) S := st_op (f := fun x y => mB (dIsNot x y)) (m := mVar 3) (n := ret .non) rfl rfl (by rw [row_isnot]; rfl)
  have r1 : (bn2 (mVar 3) (ret .non) fun x y => lft (dIsNot x y)) [.val .drw, .val (.int (n : Nat)), .val (kindD hk), .val (rowR R zs0), .no, .no, .no] S = .ok R S := st_op (m := mVar 3) (n := ret .non) rfl rfl (row_isnot R zs0)
  have r2 : (bn2 (bn2 (bn2 (mB1 (mVar 1) dInt) (ret (.int 4)) fun x y => lft (dMod x y)) (mLst (mCons (ret (.int 0)) (mCons (ret (.int 1)) (ret [])))) fun x y => lft (mB (dIn x y))) (bn2 (mVar 2) (ret (.str "whole")) fun x y => lft (mB (dEq x y))) fun x y => lft (mB (dEq x y))) [.val .drw, .val (.int (n : Nat)), .val (kindD hk), .val (rowR R zs0), .no, .no, .no] S = .ok (.bl R) S := by
    refine st_op (f := fun x y => mB (dEq x y)) (st_op (f := fun x y => mB (dIn x y)) (st_op (st_b1 (m := mVar 1) (a := .int (n : Nat)) rfl rfl) (n := ret (.int 4)) rfl (d := .int ((n % 4 : Nat) : Int)) ?_) (n := mLst (mCons (ret (.int 0)) (mCons (ret (.int 1)) (ret [])))) (b := .lst [.int 0, .int 1]) rfl (d := .bl (decide (n % 4 ≤ 1))) ?_) (st_op (f := fun x y => mB (dEq x y)) (m := mVar 2) (a := kindD hk) rfl (n := ret (.str "whole")) rfl (d := .bl (!hk)) ?_) ?_
    · rw [d_mod, if_pos (by decide)]
      congr 2
      rw [Int.fmod_eq_emod_of_nonneg _ (by decide)]
      omega
    · try dsimp only
      rw [in01 _ (Nat.mod_lt _ (by decide))]; rfl
    · try dsimp only
      rw [kind_whole]; rfl
    · try dsimp only
      rw [d_eqb, d_mB]
      refine congrArg (fun b => some (D.bl b)) ?_
      rw [← hc]
      unfold condB
      generalize decide (n % 4 ≤ 1) = a
      cases a <;> cases hk <;> rfl
  have t1 : (mOrT (bn2 (bn2 (mVar 3) (ret .non) fun x y => lft (mB (dIsNot x y))) (bn2 (bn2 (bn2 (mB1 (mVar 1) dInt) (ret (.int 4)) fun x y => lft (dMod x y)) (mLst (mCons (ret (.int 0)) (mCons (ret (.int 1)) (ret [])))) fun x y => lft (mB (dIn x y))) (bn2 (mVar 2) (ret (.str "whole")) fun x y => lft (mB (dEq x y))) fun x y => lft (mB (dEq x y))) fun x y => lft (dNe x y)) (mAndT (bn2 (mVar 3) (ret .non) fun x y => lft (dIsNot x y)) (mNotT (bnd (mCall 3 (mCons (mVar 1) (mCons (mVar 2) (mCons (mVar 3) (ret [])))) f__law_is_gap) asB)))) [.val .drw, .val (.int (n : Nat)), .val (kindD hk), .val (rowR R zs0), .no, .no, .no] S = .ok false S := by
    refine (st_or_f (st_op r0 r2 (by cases R <;> rfl))).trans ?_
    cases R with
    | false => exact st_and_f r1
    | true =>
      refine (st_and_t r1).trans (st_not (k := true) (st_asB ((st_call (ds := [.int (n : Nat), kindD hk, .tup (zs0.map D.int)]) (S1 := S) rfl rfl).trans ?_)))
      rw [is_gap_ok ⟨hn.1, by omega⟩ (.inl ⟨_, rfl, ent_ints zs0, by rw [List.length_map]; have := (hz0 rfl).2; omega⟩) S, hrow rfl]
  obtain ⟨zs, hz, hl, hval, b3⟩ : ∃ zs, zs ≠ [] ∧ zs.length ≤ 200 ∧ rowR R zs0 = rowR R zs ∧ sE (mIf (bn2 (mVar 3) (ret .non) fun x y => lft (dIsNot x y)) (mVar 3) (mB1 (bn2 (mLst (mCons (ret (.int 1)) (mCons (ret (.int 1)) (ret [])))) (bn2 (mLst (mCons (ret (.int 0)) (ret []))) (bn2 (bn2 (ret (.int 2)) (mVar 1) fun x y => lft (dMul x y)) (mIf (bn2 (mVar 2) (ret (.str "whole")) fun x y => lft (dEq x y)) (ret (.int 2)) (ret (.int 1))) fun x y => lft (dSub x y)) fun x y => lft (dMul x y)) fun x y => lft (dAdd x y)) dTuple)) (sSet 4) [.val .drw, .val (.int (n : Nat)), .val (kindD hk), .val (rowR R zs0), .no, .no, .no] S
      = .nx (rhoT n hk R zs .no .no) S := by
    cases R with
    | true =>
      refine ⟨zs0, (hz0 rfl).1, (hz0 rfl).2, rfl, (st_set ((st_ifM r1).trans ?_)).trans rfl⟩
      rfl
    | false =>
      refine ⟨[1, 1] ++ List.replicate (restS n hk) 0, by simp, ?_, rfl, (st_set (d := .tup (([1, 1] ++ List.replicate (restS n hk) (0 : Int)).map D.int)) ((st_ifM r1).trans ?_)).trans rfl⟩
      · unfold restS
        simp only [List.length_append, List.length_cons, List.length_nil, List.length_replicate]
        split <;> omega
      · show mB1 _ dTuple _ S = _
        have hsz : 4000 ≤ sizeLine := by decide
        have hw := st_op (m := mVar 2) (n := ret (.str "whole")) (ρ := [.val .drw, .val (.int (n : Nat)), .val (kindD hk), .val (rowR false zs0), .no, .no, .no]) (S := S) (S1 := S) (S2 := S) rfl rfl (kind_whole hk)
        refine st_b1 (a := .lst (([1, 1] ++ List.replicate (restS n hk) (0 : Int)).map D.int)) (st_op (a := .lst [.int 1, .int 1]) (S1 := S) rfl (st_op (a := .lst [.int 0]) (S1 := S) rfl (st_op (S1 := S) (st_op (m := ret (.int 2)) rfl (n := mVar 1) rfl (dmul2 n)) (S2 := S) (b := .int (if hk = true then 1 else 2)) ?_ (f := dSub) (d := .int (restS n hk : Nat)) ?_) (f := dMul) (d := .lst ((List.replicate (restS n hk) (0 : Int)).map D.int)) ?_) ?_) rfl
        · rw [st_ifM hw]
          cases hk <;> rfl
        · show some (D.int _) = some (D.int _)
          congr 2
          unfold restS
          cases hk <;> simp <;> omega
        · have : restS n hk ≤ 100 := by unfold restS; split <;> omega
          rw [dmul_lst, if_pos ⟨by omega, by omega, by rw [Int.toNat_natCast, List.length_cons, List.length_nil]; omega⟩, Int.toNat_natCast, flat0]
        · show (if _ then _ else _) = _
          have : restS n hk ≤ 100 := by unfold restS; split <;> omega
          rw [if_pos (by simp; omega), List.map_append]
          rfl
  have b4 : (sIf (mNotT (bnd (mCall 2 (mCons (mCall 3 (mCons (mVar 1) (mCons (mVar 2) (mCons (mVar 4) (ret [])))) f_is_gap_row) (mCons (mCall 3 (mCons (mVar 1) (mCons (mVar 2) (mCons (mVar 4) (ret [])))) f__law_is_gap) (ret []))) f__law_is_truth) asB)) (sE (ret (.bl false)) sRt) sNil) (rhoT n hk R zs .no .no) S = .nx (rhoT n hk R zs .no .no) S := by
    have hv : Val (.tup (zs.map D.int)) := .inl ⟨_, rfl, ent_ints zs, by rw [List.length_map]; omega⟩
    have e1 : mCall 3 (mCons (mVar 1) (mCons (mVar 2) (mCons (mVar 4) (ret [])))) f_is_gap_row (rhoT n hk R zs .no .no) S = .ok (.bl (rowV n hk (.tup (zs.map D.int)))) S := is_gap_row_ok hn hv S
    have e2 : mCall 3 (mCons (mVar 1) (mCons (mVar 2) (mCons (mVar 4) (ret [])))) f__law_is_gap (rhoT n hk R zs .no .no) S = .ok (.bl (rowV n hk (.tup (zs.map D.int)))) S := is_gap_ok ⟨hn.1, by omega⟩ hv S
    exact (st_if_f (st_not (k := true) (st_asB ((st_call (st_cons e1 (st_cons e2 rfl)) rfl).trans (truth_ok _ S))))).trans rfl
  obtain ⟨s5, s6, S', b5, hS'⟩ := laps_ok (n := n) (hk := hk) (R := R) (zs := zs) (m := m) hn hz hl [0, 1, 2, 3, 4] .no .no S rfl (hS.less (by simp; omega))
  refine fin S' hS' ?_
  refine (st_seq b1).trans ((st_seq ((st_if_f t1).trans rfl)).trans ((st_seq b3).trans ((st_seq b4).trans ((st_seq ((st_for (its := [0, 1, 2, 3, 4].map fun k : Nat => D.int (k : Nat)) (S1 := S) rfl).trans b5)).trans (st_rt rfl)))))
end Pf
end

section
set_option Elab.async false
set_option linter.all false
set_option maxRecDepth 100000
namespace Pf
open PySem PySem.Spec L2
theorem st_dropx {m : M D} {ρ : En} {S S1 : DS} {x : XV} (h : m ρ S = .exc x S1) : sDrop m ρ S = .exc x S1 := st_sEx h
abbrev xN : XV := ("BadNumber", some ("word", .str "n"))
abbrev xK : XV := ("BadGapKind", none)
def offs : List D := [.non, .int 0, .int (-1), .int 41, .bl true, .str "1", .tup [.int 1]]
def kinds : List D := [.non, .str "", .str "Whole", .str "hook", .int 1, .tup [.str "whole"], .lst [.str "hooked"], .str "wholehooked"]
theorem KR_n (S : DS) : KR (.exc xN S) = .ok (.str "n") S := rfl
theorem KR_k (S : DS) : KR (.exc xK S) = .ok (.str "kind") S := rfl
theorem whole_x {d : D} (h : d ∈ offs) {most : Int} (hm : most = 40 ∨ most = 8) (S : DS) : f_need_whole [d, .int 1, .int most, .str "n"] S = .exc xN S := by
  simp only [offs, List.mem_cons, List.not_mem_nil, or_false] at h
  rcases h with rfl | rfl | rfl | rfl | rfl | rfl | rfl <;> rcases hm with rfl | rfl <;> rfl
theorem whole_big {n most : Nat} (h : most < n) (S : DS) : f_need_whole [.int (n : Nat), .int 1, .int (most : Nat), .str "n"] S = .exc xN S := by
  refine runFn_exc (ρ := [.val (.int (n : Nat)), .val (.int 1), .val (.int (most : Nat)), .val (.str "n")]) rfl ?_
  refine (st_if_t (S1 := S) ?_).trans rfl
  refine (st_or_f (S1 := S) rfl).trans ?_
  have h2 : (mAndT (bn2 (mVar 1) (ret .non) fun x y => lft (dIsNot x y)) (bn2 (mVar 0) (mVar 1) fun x y => lft (dLt x y))) [.val (.int (n : Nat)), .val (.int 1), .val (.int (most : Nat)), .val (.str "n")] S = .ok false S :=
    (st_and_t (S1 := S) rfl).trans (st_op (a := .int (n : Nat)) (b := .int 1) rfl rfl (by rw [d_lti, decide_eq_false (by omega)]))
  refine (st_or_f h2).trans ?_
  exact (st_and_t (S1 := S) rfl).trans (st_op (a := .int (n : Nat)) (b := .int (most : Nat)) rfl rfl (by rw [d_gti, decide_eq_true (by omega)]))
theorem gaps_x {d : D} {most : Int} {k : D} {x : XV} {S : DS} (h : f_need_whole [d, .int 1, .int most, .str "n"] S = .exc x S) : f_need_gaps [d, .int most, k] S = .exc x S :=
  runFn_exc (ρ := [.val d, .val (.int most), .val k]) rfl (st_seq_x (st_dropx ((st_call (ds := [d, .int 1, .int most, .str "n"]) (S1 := S) rfl rfl).trans h)))
theorem gaps_k {n most : Nat} (h : 1 ≤ n ∧ n ≤ most) {k : D} (hk : k ∈ kinds) (S : DS) : f_need_gaps [.int (n : Nat), .int (most : Nat), k] S = .exc xK S := by
  refine runFn_exc (ρ := [.val (.int (n : Nat)), .val (.int (most : Nat)), .val k]) rfl ?_
  refine (st_seq (st_drop ((st_call (ds := [.int (n : Nat), .int 1, .int (most : Nat), .str "n"]) (S1 := S) rfl rfl).trans (need_whole_ok h _ S)))).trans ?_
  refine (st_if_t (S1 := S) ?_).trans rfl
  have hs : ∀ z : Str, dNotIn (.str z) (.tup [.str "whole", .str "hooked"]) = some true → (mOrT (mNotT (bnd (mB1 (mVar 2) (dIsT "str")) asB)) (bn2 (mVar 2) (mTup (mCons (ret (.str "whole")) (mCons (ret (.str "hooked")) (ret [])))) fun x y => lft (dNotIn x y))) [.val (.int (n : Nat)), .val (.int (most : Nat)), .val (.str z)] S = .ok true S := fun z hz =>
    (st_or_f (S1 := S) rfl).trans (st_op (a := .str z) (b := .tup [.str "whole", .str "hooked"]) rfl rfl hz)
  simp only [kinds, List.mem_cons, List.not_mem_nil, or_false] at hk
  rcases hk with rfl | rfl | rfl | rfl | rfl | rfl | rfl | rfl
  · exact st_or_t (S1 := S) rfl
  · exact hs _ (by decide +kernel)
  · exact hs _ (by decide +kernel)
  · exact hs _ (by decide +kernel)
  · exact st_or_t (S1 := S) rfl
  · exact st_or_t (S1 := S) rfl
  · exact st_or_t (S1 := S) rfl
  · exact hs _ (by decide +kernel)
theorem gap_row_x {d k : D} {x : XV} {S : DS} (h : f_need_gaps [d, .int 40, k] S = .exc x S) : f_gap_row [d, k] S = .exc x S :=
  runFn_exc (ρ := [.val d, .val k]) rfl (st_seq_x (st_dropx ((st_call (ds := [d, .int 40, k]) (S1 := S) rfl rfl).trans h)))
theorem is_gap_row_x {d k v : D} {x : XV} {S : DS} (h : f_need_gaps [d, .int 40, k] S = .exc x S) : f_is_gap_row [d, k, v] S = .exc x S :=
  runFn_exc (ρ := [.val d, .val k, .val v]) rfl (st_seq_x (st_dropx ((st_call (ds := [d, .int 40, k]) (S1 := S) rfl rfl).trans h)))
theorem gap_rows_x {d k : D} {x : XV} {S : DS} (h : f_need_gaps [d, .int 8, k] S = .exc x S) : f_gap_rows [d, k] S = .exc x S :=
  runFn_exc (ρ := [.val d, .val k, .no]) rfl (st_seq_x (st_dropx ((st_call (ds := [d, .int 8, k]) (S1 := S) rfl rfl).trans h)))
theorem ask_ok {kr : Res D → Res D} {sm : List D → DS → Res D} {ρ : En} {S : DS} : ∀ (L : List LamSp) (Ms : List (M D)) (dues : List Str), L.map (·.due) = dues → (∀ x ∈ dues, sm [.str x, .str x] S = .ok (.bl true) S) → (∀ q ∈ dues.zip Ms, kr (q.2 ρ S) = .ok (.str q.1) S) →
    askLoop kr sm ρ (L.zip Ms) S = .ok [] S
  | [], _, _, _, _, _ => by rw [List.zip_nil_left]; rfl
  | _ :: _, [], _, _, _, _ => rfl
  | l :: L, m :: Ms, dues, h, hs, hq => by
    subst h
    rw [List.zip_cons_cons]
    unfold askLoop
    rw [hq (l.due, m) List.mem_cons_self]
    dsimp only
    rw [hs l.due List.mem_cons_self]
    dsimp only
    rw [ask_ok L Ms _ rfl (fun x hx => hs x (List.mem_cons_of_mem _ hx)) fun q hx => hq q (List.mem_cons_of_mem _ hx)]
    rfl
theorem odd_ok {m : Nat} {S : DS} (hS : DOk (m + 1) S) : ∃ d S', f__law_odd [.drw] S = .ok d S' ∧ DOk m S' := by
  have key : ∃ L : List D, L ≠ [] ∧ L.length < 2 ^ 30 ∧ ∀ d S', f__law_pick [.drw, .lst L] S = .ok d S' → f__law_odd [.drw] S = .ok d S' := by
    refine ⟨_, ?_, ?_, fun d S' h => runFn_rt (ρ := [.val .drw, .no]) rfl ((st_seq (st_set (S1 := S) rfl)).trans ((st_seq (st_set (S1 := S) rfl)).trans (st_rt ((st_call (S1 := S) rfl rfl).trans h))))⟩
    · exact List.cons_ne_nil _ _
    · decide
  obtain ⟨L, h1, h2, h3⟩ := key
  obtain ⟨d, S', _, e, h4⟩ := pick_ok hS h1 h2
  exact ⟨d, S', h3 d S' e, h4⟩
theorem dues_ok : (lamsOf ((defBody s__law_refused).getD 3 (.Pass ⟨0, 0, 0, 0⟩))).map (·.due) = (["n", "n", "n", "n", "kind", "kind", "kind"] : List Str) := by decide +kernel
theorem same_n (S : DS) : f__law_same [.str "n", .str "n"] S = .ok (.bl true) S := okB_at (by decide +kernel) S
theorem same_k (S : DS) : f__law_same [.str "kind", .str "kind"] S = .ok (.bl true) S := okB_at (by decide +kernel) S
theorem refused_ok {m : Nat} {S : DS} (hS : DOk (m + 4) S) : ∃ S', f__law_refused [.drw] S = .ok (.bl true) S' ∧ DOk m S' := by
  obtain ⟨off, S1, ho, e1, h1⟩ := pick_m (ρ := [.val .drw, .no, .no, .no, .no, .no, .no, .no]) (S := S) (m := m + 3) (ds := offs) (ms := mCons (mVar 0) (mCons (mLst (mCons (ret .non) (mCons (ret (.int 0)) (mCons (mB1 (ret (.int 1)) dNeg) (mCons (ret (.int 41)) (mCons (ret (.bl true)) (mCons (ret (.str "1")) (mCons (mTup (mCons (ret (.int 1)) (ret []))) (ret []))))))))) (ret []))) rfl hS (by simp [offs]) (by simp [offs])
  obtain ⟨val, S2, e2, h2⟩ := odd_ok h1
  obtain ⟨k, S3, hk, e3, h3⟩ := pick_m (ρ := [.val .drw, .val off, .val val, .no, .no, .no, .no, .no]) (S := S2) (m := m + 1) (ds := kinds) (ms := mCons (mVar 0) (mCons (mLst (mCons (ret .non) (mCons (ret (.str "")) (mCons (ret (.str "Whole")) (mCons (ret (.str "hook")) (mCons (ret (.int 1)) (mCons (mTup (mCons (ret (.str "whole")) (ret []))) (mCons (mLst (mCons (ret (.str "hooked")) (ret []))) (mCons (ret (.str "wholehooked")) (ret [])))))))))) (ret []))) rfl h2 (by simp [kinds]) (by simp [kinds])
  obtain ⟨r, S4, e4, hr, h4⟩ := draw_n (ρ := [.val .drw, .val off, .val val, .val k, .no, .no, .no, .no]) (S := S3) (r := 32) (ms := mCons (mVar 0) (mCons (ret (.int 32)) (ret []))) rfl (m := m) h3 (by omega) (by omega)
  refine ⟨S4, runFn_rt (ρ := [.val .drw, .no, .no, .no, .no, .no, .no, .no]) rfl ?_, h4⟩
  refine (st_seq (ρ' := [.val .drw, .val off, .val val, .no, .no, .no, .no, .no]) ((st_two ((st_bnd e1).trans rfl) ((st_bnd ((st_call (ds := [.drw]) (S1 := S1) rfl rfl).trans e2)).trans rfl) (by simp)).trans rfl)).trans ?_
  refine (st_seq (ρ' := [.val .drw, .val off, .val val, .val k, .no, .no, .no, .no]) ((st_set e3).trans rfl)).trans ?_
  refine (st_seq (ρ' := [.val .drw, .val off, .val val, .val k, .val (.int ((9 + r : Nat) : Int)), .no, .no, .no]) ((st_set (st_op (m := ret (.int 9)) rfl e4 (f := dAdd) (d := .int ((9 + r : Nat) : Int)) rfl)).trans rfl)).trans ?_
  unfold askAll
  rw [if_pos (show askOk [.val .drw, .val off, .val val, .val k, .val (.int ((9 + r : Nat) : Int)), .no, .no, .no] 5 6 7 = true by simp [askOk, notOwn])]
  have a := ask_ok (kr := KR) (sm := f__law_same) (ρ := [.val .drw, .val off, .val val, .val k, .val (.int ((9 + r : Nat) : Int)), .no, .no, .no]) (S := S4) (lamsOf ((defBody s__law_refused).getD 3 (.Pass ⟨0, 0, 0, 0⟩))) [(mCall 2 (mCons (mVar 1) (mCons (mVar 3) (ret []))) f_gap_row),
    (mCall 3 (mCons (mVar 1) (mCons (mVar 3) (mCons (mVar 2) (ret [])))) f_is_gap_row),
    (mCall 2 (mCons (mVar 1) (mCons (mVar 3) (ret []))) f_gap_rows),
    (mCall 2 (mCons (mVar 4) (mCons (mVar 3) (ret []))) f_gap_rows),
    (mCall 2 (mCons (mVar 4) (mCons (mVar 3) (ret []))) f_gap_row),
    (mCall 3 (mCons (mVar 4) (mCons (mVar 3) (mCons (mVar 2) (ret [])))) f_is_gap_row),
    (mCall 2 (mCons (ret (.int 8)) (mCons (mVar 3) (ret []))) f_gap_rows)] _ dues_ok (fun x hx => by
      simp only [List.mem_cons, List.not_mem_nil, or_false] at hx
      rcases hx with rfl | rfl | rfl | rfl | rfl | rfl | rfl <;> first | exact same_n S4 | exact same_k S4) (fun q hq => by
      have hm40 := gaps_x (k := k) (whole_x ho (most := 40) (.inl rfl) S4)
      have hm8 := gaps_x (k := k) (whole_x ho (most := 8) (.inr rfl) S4)
      have hn8 := gaps_x (k := k) (whole_big (n := 9 + r) (most := 8) (by omega) S4)
      have hk40 := gaps_k (n := 9 + r) (most := 40) ⟨by omega, by omega⟩ hk S4
      have hk8 := gaps_k (n := 8) (most := 8) ⟨by omega, by omega⟩ hk S4
      simp only [List.zip_cons_cons, List.zip_nil_right, List.mem_cons, List.not_mem_nil, or_false] at hq
      rcases hq with rfl | rfl | rfl | rfl | rfl | rfl | rfl
      · show KR (f_gap_row [off, k] S4) = _
        rw [gap_row_x hm40]; rfl
      · show KR (f_is_gap_row [off, k, val] S4) = _
        rw [is_gap_row_x hm40]; rfl
      · show KR (f_gap_rows [off, k] S4) = _
        rw [gap_rows_x hm8]; rfl
      · show KR (f_gap_rows [.int ((9 + r : Nat) : Int), k] S4) = _
        rw [gap_rows_x hn8]; rfl
      · show KR (f_gap_row [.int ((9 + r : Nat) : Int), k] S4) = _
        rw [gap_row_x hk40]; rfl
      · show KR (f_is_gap_row [.int ((9 + r : Nat) : Int), k, val] S4) = _
        rw [is_gap_row_x hk40]; rfl
      · show KR (f_gap_rows [.int ((8 : Nat) : Int), k] S4) = _
        rw [gap_rows_x hk8]; rfl)
  have a' : askLoop KR f__law_same (((wipeE [.val .drw, .val off, .val val, .val k, .val (.int ((9 + r : Nat) : Int)), .no, .no, .no] [6, 7]).map hid).set 5 .no) z__law_refused S4 = .ok [] S4 := a
  rw [a']
  rfl
end Pf
end

section
set_option Elab.async false
set_option linter.all false
set_option maxRecDepth 100000
namespace Pf
def hasK (k : Nat) : Row → Bool
  | [] => false
  | none :: r => hasK k r
  | some j :: r => match Nat.beq j k with
    | true => true
    | false => hasK k r
def fill2 (k : Nat) : Nat → Row → Option Row
  | _, [] => none
  | 0, none :: r => match hasK k r with
    | true => none
    | false => some (some k :: r)
  | 0, some _ :: _ => none
  | d + 1, none :: r => match fill2 k d r with
    | none => none
    | some r' => some (none :: r')
  | d + 1, some j :: r => match Nat.beq j k with
    | true => none
    | false => match fill2 k d r with
      | none => none
      | some r' => some (some j :: r')
def fill1 (k : Nat) : Row → Option Row
  | [] => none
  | none :: r => match fill2 k (k - 1) r with
    | none => none
    | some r' => some (some k :: r')
  | some j :: r => match Nat.beq j k with
    | true => none
    | false => match fill1 k r with
      | none => none
      | some r' => some (some j :: r')
def kidsK (r : Row) : Nat → List Row → List Row
  | 0, acc => acc
  | n + 1, acc => match fill1 (n + 1) r with
    | none => kidsK r n acc
    | some r' => kidsK r n (r' :: acc)
def fullK : Row → Bool
  | [] => true
  | none :: _ => false
  | some _ :: r => fullK r
/-- as loopR, what is found turned round and counted -/
def loopK (n most : Nat) : Nat → List Row → List Row → Nat → Option (List Row)
  | 0, _, _, _ => none
  | _ + 1, [], fd, _ => some fd
  | f + 1, r :: st, fd, c => match Nat.blt c most with
    | false => some fd
    | true => match fullK r with
      | true => loopK n most f st (r :: fd) (c + 1)
      | false => loopK n most f (kidsK r n st) fd c
theorem beqK (a b : Nat) : Nat.beq a b = decide (a = b) := by
  rw [Bool.eq_iff_iff, Nat.beq_eq, decide_eq_true_eq]
theorem hasK_eq (k : Nat) : ∀ r : Row, hasK k r = r.any (· == some k)
  | [] => rfl
  | none :: r => by
    show hasK k r = _
    rw [hasK_eq k r, List.any_cons]
    rfl
  | some j :: r => by
    rw [List.any_cons, ← hasK_eq k r, hasK, beqK]
    by_cases e : j = k
    · rw [decide_eq_true e]; simp [e]
    · rw [decide_eq_false e]; simp [e]
theorem fill2_eq (k : Nat) : ∀ (d : Nat) (r : Row), fill2 k d r = if hasK k r = true then none else match r[d]? with
    | some none => some (r.take d ++ [some k] ++ r.drop (d + 1))
    | _ => none
  | _, [] => by simp [fill2, hasK]
  | 0, none :: r => by
    show (match hasK k r with | true => none | false => some (some k :: r)) = if hasK k r = true then none else _
    cases hasK k r <;> rfl
  | 0, some j :: r => by
    show none = if _ then _ else _
    split <;> rfl
  | d + 1, none :: r => by
    show (match fill2 k d r with | none => none | some r' => some (none :: r')) = if hasK k r = true then none else _
    rw [fill2_eq k d r, List.getElem?_cons_succ]
    cases hasK k r with
    | true => rfl
    | false =>
      rw [if_neg Bool.false_ne_true, if_neg Bool.false_ne_true]
      cases r[d]? with
      | none => rfl
      | some o => cases o <;> rfl
  | d + 1, some j :: r => by
    show (match Nat.beq j k with | true => none | false => match fill2 k d r with | none => none | some r' => some (some j :: r')) = if (match Nat.beq j k with | true => true | false => hasK k r) = true then none else _
    cases Nat.beq j k with
    | true => rfl
    | false =>
      dsimp only
      rw [fill2_eq k d r, List.getElem?_cons_succ]
      cases hasK k r with
      | true => rfl
      | false =>
        rw [if_neg Bool.false_ne_true, if_neg Bool.false_ne_true]
        cases r[d]? with
        | none => rfl
        | some o => cases o <;> rfl
theorem fill1_eq {k : Nat} (hk : 1 ≤ k) : ∀ r : Row, fill1 k r = fillS r k
  | [] => rfl
  | none :: r => by
    obtain ⟨d, rfl⟩ : ∃ d, k = d + 1 := ⟨k - 1, by omega⟩
    show (match fill2 (d + 1) d r with | none => none | some r' => some (some (d + 1) :: r')) = _
    have h1 : (none :: r : Row).findIdx? (· == none) = some 0 := rfl
    unfold fillS
    rw [h1]
    dsimp only
    rw [fill2_eq, hasK_eq, List.any_cons, show ((none : Option Nat) == some (d + 1)) = false from rfl, Bool.false_or, Nat.zero_add, List.getElem?_cons_succ]
    cases r.any (· == some (d + 1)) with
    | true => rfl
    | false =>
      rw [if_neg Bool.false_ne_true, if_neg Bool.false_ne_true]
      cases r[d]? with
      | none => rfl
      | some o => cases o <;> rfl
  | some j :: r => by
    show (match Nat.beq j k with | true => none | false => match fill1 k r with | none => none | some r' => some (some j :: r')) = _
    have h1 : (some j :: r : Row).findIdx? (· == none) = (r.findIdx? (· == none)).map (· + 1) := by
      rw [List.findIdx?_cons]; rfl
    rw [fill1_eq hk r, beqK]
    unfold fillS
    rw [h1, List.any_cons]
    cases hp : r.findIdx? (· == none) with
    | none =>
      dsimp only [Option.map_none]
      split <;> rfl
    | some p =>
      dsimp only [Option.map_some]
      by_cases e : j = k
      · rw [decide_eq_true e, if_pos (show (some j == some k || r.any (· == some k)) = true by rw [show (some j == some k) = true by simp [e], Bool.true_or])]
      · rw [decide_eq_false e, show (some j == some k) = false by simp [e], Bool.false_or, show p + 1 + k = p + k + 1 by omega, List.getElem?_cons_succ]
        cases r.any (· == some k) with
        | true => rfl
        | false =>
          rw [if_neg Bool.false_ne_true, if_neg Bool.false_ne_true]
          cases r[p + k]? with
          | none => rfl
          | some o => cases o <;> rfl
theorem kidsK_eq (r : Row) : ∀ (n : Nat) (acc : List Row), kidsK r n acc = kids n r ++ acc
  | 0, acc => rfl
  | n + 1, acc => by
    have h : kids (n + 1) r = kids n r ++ (match fillS r (n + 1) with | none => [] | some r' => [r']) := by
      unfold kids ups
      rw [List.range_succ, List.map_append, List.filterMap_append]
      congr 1
      cases h : fillS r (n + 1) <;> simp [h]
    rw [h]
    show (match fill1 (n + 1) r with | none => kidsK r n acc | some r' => kidsK r n (r' :: acc)) = _
    rw [fill1_eq (by omega)]
    cases fillS r (n + 1) with
    | none => rw [kidsK_eq r n acc]; simp
    | some r' =>
      show kidsK r n (r' :: acc) = _
      rw [kidsK_eq r n (r' :: acc)]; simp
theorem fullK_eq : ∀ r : Row, fullK r = !r.any (· == none)
  | [] => rfl
  | none :: r => rfl
  | some j :: r => by
    rw [List.any_cons]
    show fullK r = _
    rw [fullK_eq r]; rfl
theorem loopK_eq {n most : Nat} : ∀ (f : Nat) (st fd : List Row) (out : List Row), loopK n most f st fd.reverse fd.length = some out → loopR n most f st fd = some out.reverse
  | 0, _, _, _, h => by cases h
  | f + 1, [], fd, out, h => by
    cases h
    show some fd = _
    rw [List.reverse_reverse]
  | f + 1, r :: st, fd, out, h => by
    unfold loopK at h
    unfold loopR
    have hb : Nat.blt fd.length most = decide (fd.length < most) := by
      rw [Bool.eq_iff_iff, Nat.blt_eq, decide_eq_true_eq]
    rw [hb, fullK_eq] at h
    by_cases hm : fd.length < most
    · rw [if_pos hm]
      rw [decide_eq_true hm] at h
      try dsimp only at h
      cases ha : r.any (· == none) with
      | true =>
        rw [ha] at h
        rw [if_pos rfl]
        have h' : loopK n most f (kidsK r n st) fd.reverse fd.length = some out := h
        rw [kidsK_eq] at h'
        exact loopK_eq f _ fd out h'
      | false =>
        rw [ha] at h
        rw [if_neg Bool.false_ne_true]
        exact loopK_eq f st (fd ++ [r]) out (by rw [List.reverse_append, List.length_append]; exact h)
    · rw [if_neg hm]
      rw [decide_eq_false hm] at h
      cases h
      rw [List.reverse_reverse]
/-! ### no row at all, told in parts -/
def noneK (n : Nat) : Nat → List Row → Bool
  | 0, _ => false
  | _ + 1, [] => true
  | f + 1, r :: st => match fullK r with
    | true => false
    | false => noneK n f (kidsK r n st)
theorem noneK_up {n : Nat} : ∀ {f : Nat} (k : Nat) {A : List Row}, noneK n f A = true → noneK n (f + k) A = true
  | 0, _, _, h => by cases h
  | f + 1, k, [], _ => by rw [show f + 1 + k = (f + k) + 1 by omega]; rfl
  | f + 1, k, r :: A, h => by
    rw [show f + 1 + k = (f + k) + 1 by omega]
    rw [noneK] at h ⊢
    cases hf : fullK r with
    | true => rw [hf] at h; cases h
    | false => rw [hf] at h; exact noneK_up k h
theorem noneK_cat {n : Nat} : ∀ {f g : Nat} {A B : List Row}, noneK n f A = true → noneK n g B = true → noneK n (f + g) (A ++ B) = true
  | 0, _, _, _, h, _ => by cases h
  | f + 1, g, [], B, _, h => by rw [Nat.add_comm]; exact noneK_up (f + 1) h
  | f + 1, g, r :: A, B, h, h2 => by
    rw [show f + 1 + g = (f + g) + 1 by omega, List.cons_append]
    rw [noneK] at h ⊢
    cases hf : fullK r with
    | true => rw [hf] at h; cases h
    | false =>
      rw [hf] at h
      have e : kidsK r n (A ++ B) = kidsK r n A ++ B := by rw [kidsK_eq, kidsK_eq, List.append_assoc]
      show noneK n (f + g) (kidsK r n (A ++ B)) = true
      rw [e]
      exact noneK_cat h h2
theorem noneK_loop {n most : Nat} (hm : 0 < most) : ∀ {f : Nat} {A : List Row}, noneK n f A = true → loopR n most f A [] = some []
  | 0, _, h => by cases h
  | f + 1, [], _ => rfl
  | f + 1, r :: A, h => by
    rw [noneK] at h
    cases hf : fullK r with
    | true => rw [hf] at h; cases h
    | false =>
      rw [hf] at h
      have ha : r.any (· == none) = true := by
        have := fullK_eq r
        rw [hf] at this
        simpa using this
      unfold loopR
      rw [if_pos (show ([] : List Row).length < most from hm), if_pos ha]
      have e : kidsK r n A = kids n r ++ A := kidsK_eq r n A
      rw [← e]
      exact noneK_loop hm h
theorem noneK_all {n f : Nat} : ∀ {A : List Row}, (∀ r ∈ A, noneK n f [r] = true) → noneK n (f * A.length + 1) A = true
  | [], _ => by rw [Nat.add_comm]; rfl
  | r :: A, h => by
    have h1 := h r List.mem_cons_self
    have h2 := noneK_all (A := A) fun q hq => h q (List.mem_cons_of_mem _ hq)
    have := noneK_cat h1 h2
    rw [List.length_cons, Nat.mul_succ, show f * A.length + f + 1 = f + (f * A.length + 1) by omega]
    exact this
end Pf
end

section
set_option Elab.async false
set_option linter.all false
set_option maxRecDepth 100000
namespace Pf
open PySem PySem.Spec L2
def placeK (k : Nat) (r : Row) (p : Nat) : Option Row := if r[p]? = some none ∧ r[p + k]? = some none then some ((r.set p (some k)).set (p + k) (some k)) else none
def stepA (rows : List Row) (k : Nat) : List Row := rows.flatMap fun r => (List.range (r.length - k)).filterMap (placeK k r)
def allS (n : Nat) (hk : Bool) : List Row := (ups n).reverse.foldl stepA [blankS n hk]
section
variable {n : Nat} {kd b rs0 : D} {S : DS}
abbrev rhoA (n : Nat) (kd b rs : D) (s4 s5 s6 s7 s8 : SD) : En := [.val (.int (n : Nat)), .val kd, .val b, .val rs, s4, s5, s6, s7, s8]
abbrev bodyP : MS := (sIf (mAndT (bn2 (bn2 (mVar 6) (mVar 7) fun x y => lft (dIx x y)) (ret .non) fun x y => lft (dIs x y)) (bn2 (bn2 (mVar 6) (bn2 (mVar 7) (mVar 4) fun x y => lft (dAdd x y)) fun x y => lft (dIx x y)) (ret .non) fun x y => lft (dIs x y))) (sSeq (sE (bnd (mVar 6) asL) (sOwn 8))
  (sSeq (sE (mTup (mCons (mVar 4) (mCons (mVar 4) (ret [])))) fun d => sSeq (sTg ((gTup' 2 (gCons' (gIt 8 (mVar 7)) (gCons' (gIt 8 (bn2 (mVar 7) (mVar 4) fun x y => lft (dAdd x y))) gNil'))) d)) sNil)
  (sApp 5 (mB1 (mOwn 8) dTuple)))) sNil)
theorem dis_row {r : Row} {p : Nat} {o : Option Nat} (h : r[p]? = some o) : dIx (rowD r) (.int (p : Nat)) = some (oD o) ∧ dIs (oD o) .non = some o.isNone := by
  constructor
  · show atI _ _ = _
    rw [atI_nat, List.getElem?_map, h]; rfl
  · cases o <;> rfl
theorem place_step {r : Row} {k p : Nat} (hp : p + k < r.length) (L : List Row) (hL : L.length < 16000000) (s8 : SD) : ∃ s8', bodyP (rhoA n kd b rs0 (.val (.int (k : Nat))) (.own (L.map rowD)) (.val (rowD r)) (.val (.int (p : Nat))) s8) S
    = .nx (rhoA n kd b rs0 (.val (.int (k : Nat))) (.own ((L ++ (placeK k r p).toList).map rowD)) (.val (rowD r)) (.val (.int (p : Nat))) s8') S := by
  obtain ⟨o1, h1⟩ : ∃ o, r[p]? = some o := ⟨_, List.getElem?_eq_getElem (by omega)⟩
  obtain ⟨o2, h2⟩ : ∃ o, r[p + k]? = some o := ⟨_, List.getElem?_eq_getElem hp⟩
  have a : ∀ s8, (bn2 (mVar 7) (mVar 4) fun x y => lft (dAdd x y)) (rhoA n kd b rs0 (.val (.int (k : Nat))) (.own (L.map rowD)) (.val (rowD r)) (.val (.int (p : Nat))) s8) S = .ok (.int ((p + k : Nat) : Int)) S := fun s8 => st_op (m := mVar 7) (n := mVar 4) rfl rfl rfl
  have t1 : (bn2 (bn2 (mVar 6) (mVar 7) fun x y => lft (dIx x y)) (ret .non) fun x y => lft (dIs x y)) (rhoA n kd b rs0 (.val (.int (k : Nat))) (.own (L.map rowD)) (.val (rowD r)) (.val (.int (p : Nat))) s8) S = .ok o1.isNone S :=
    st_op (st_op (m := mVar 6) (n := mVar 7) rfl rfl (dis_row h1).1) (n := ret .non) rfl (dis_row h1).2
  have t2 : (bn2 (bn2 (mVar 6) (bn2 (mVar 7) (mVar 4) fun x y => lft (dAdd x y)) fun x y => lft (dIx x y)) (ret .non) fun x y => lft (dIs x y)) (rhoA n kd b rs0 (.val (.int (k : Nat))) (.own (L.map rowD)) (.val (rowD r)) (.val (.int (p : Nat))) s8) S = .ok o2.isNone S :=
    st_op (st_op (m := mVar 6) rfl (a s8) (dis_row h2).1) (n := ret .non) rfl (dis_row h2).2
  have t := st_and t1 fun _ => t2
  unfold placeK
  rw [h1, h2]
  by_cases hb : o1.isNone && o2.isNone
  rotate_left
  · rw [Bool.not_eq_true] at hb
    rw [hb] at t
    refine ⟨s8, (st_if_f t).trans ?_⟩
    have : ¬ (some o1 = some (none : Option Nat) ∧ some o2 = some (none : Option Nat)) := by
      rintro ⟨e1, e2⟩
      cases e1; cases e2; cases hb
    rw [if_neg this]
    show RS.nx _ S = RS.nx _ S
    simp
  · rw [hb] at t
    simp only [Bool.and_eq_true, Option.isNone_iff_eq_none] at hb
    obtain ⟨rfl, rfl⟩ := hb
    rw [if_pos ⟨rfl, rfl⟩]
    refine ⟨.own (((r.map oD).set p (.int (k : Nat))).set (p + k) (.int (k : Nat))), (st_if_t t).trans ?_⟩
    refine (st_seq (ρ' := rhoA n kd b rs0 (.val (.int (k : Nat))) (.own (L.map rowD)) (.val (rowD r)) (.val (.int (p : Nat))) (.own (r.map oD))) (S1 := S) rfl).trans ?_
    have e4 : mTup (mCons (mVar 4) (mCons (mVar 4) (ret []))) (rhoA n kd b rs0 (.val (.int (k : Nat))) (.own (L.map rowD)) (.val (rowD r)) (.val (.int (p : Nat))) (.own (r.map oD))) S = .ok (.tup [.int (k : Nat), .int (k : Nat)]) S := rfl
    refine (st_seq (ρ' := rhoA n kd b rs0 (.val (.int (k : Nat))) (.own (L.map rowD)) (.val (rowD r)) (.val (.int (p : Nat))) (.own (((r.map oD).set p (.int (k : Nat))).set (p + k) (.int (k : Nat))))) (S1 := S) ((st_sE e4).trans ((st_seq (st_tg ?_)).trans rfl))).trans ?_
    · show sSeq (gIt 8 (mVar 7) _) (sSeq (gIt 8 _ _) sNil) _ _ = _
      refine (st_seq (st_it (i := 8) (ds := r.map oD) (j := p) rfl rfl (by rw [List.length_map]; omega))).trans ?_
      exact (st_seq (st_it (i := 8) (ds := (r.map oD).set p _) (j := p + k) rfl (a _) (by rw [List.length_set, List.length_map]; omega))).trans rfl
    · refine (st_app (i := 5) (ds := L.map rowD) (d := rowD ((r.set p (some k)).set (p + k) (some k))) rfl (st_b1 (m := mOwn 8) (a := .lst (((r.map oD).set p (.int (k : Nat))).set (p + k) (.int (k : Nat)))) rfl ?_) (by rw [List.length_map]; omega)).trans ?_
      · show some (D.tup _) = some (D.tup _)
        rw [List.map_set, List.map_set]; rfl
      · show RS.nx _ S = RS.nx _ S
        simp
theorem places_loop {r : Row} {k : Nat} : ∀ (ps : List Nat) (L : List Row) (s7 s8 : SD), notOwn [s7] 0 = true → (∀ p ∈ ps, p + k < r.length) → L.length + ps.length < 16000000 →
    ∃ s7' s8', notOwn [s7'] 0 = true ∧ forLoop (gpName 7) bodyP (ps.map fun p : Nat => D.int (p : Nat)) (rhoA n kd b rs0 (.val (.int (k : Nat))) (.own (L.map rowD)) (.val (rowD r)) s7 s8) S
      = .nx (rhoA n kd b rs0 (.val (.int (k : Nat))) (.own ((L ++ ps.filterMap (placeK k r)).map rowD)) (.val (rowD r)) s7' s8') S
  | [], L, s7, s8, h7, _, _ => ⟨s7, s8, h7, by simp [forLoop]⟩
  | p :: ps, L, s7, s8, h7, hp, hL => by
    rw [List.length_cons] at hL
    have hg : gpName 7 (.int (p : Nat)) (rhoA n kd b rs0 (.val (.int (k : Nat))) (.own (L.map rowD)) (.val (rowD r)) s7 s8) = some (rhoA n kd b rs0 (.val (.int (k : Nat))) (.own (L.map rowD)) (.val (rowD r)) (.val (.int (p : Nat))) s8) := by
      show (if notOwn [s7] 0 = true then _ else _) = _
      rw [if_pos h7]; rfl
    obtain ⟨s8', e⟩ := place_step (n := n) (kd := kd) (b := b) (rs0 := rs0) (S := S) (hp p List.mem_cons_self) L (by omega) s8
    have hl : (placeK k r p).toList.length ≤ 1 := by cases placeK k r p <;> simp
    obtain ⟨s7', s8'', h7', ih⟩ := places_loop ps (L ++ (placeK k r p).toList) (.val (.int (p : Nat))) s8' rfl (fun q hq => hp q (List.mem_cons_of_mem _ hq)) (by rw [List.length_append]; omega)
    refine ⟨s7', s8'', h7', ?_⟩
    rw [List.map_cons, st_for_nx hg e, ih, List.append_assoc]
    congr 6
    cases h : placeK k r p with
    | none => rw [List.filterMap_cons_none h]; rfl
    | some r' => rw [List.filterMap_cons_some h]; rfl
abbrev bodyR : MS := sFor (mRng1 (bn2 (mB1 (mVar 6) dLen) (mVar 4) fun x y => lft (dSub x y))) (gpName 7) bodyP
theorem rows_loop {k len : Nat} (hk : k ≤ len) (hlen : len ≤ 1000) : ∀ (rs : List Row) (L : List Row) (s6 s7 s8 : SD), notOwn [s6] 0 = true → notOwn [s7] 0 = true → (∀ r ∈ rs, r.length = len) → L.length + rs.length * len < 16000000 →
    ∃ s6' s7' s8', notOwn [s6'] 0 = true ∧ notOwn [s7'] 0 = true ∧ forLoop (gpName 6) bodyR (rs.map rowD) (rhoA n kd b rs0 (.val (.int (k : Nat))) (.own (L.map rowD)) s6 s7 s8) S
      = .nx (rhoA n kd b rs0 (.val (.int (k : Nat))) (.own ((L ++ stepA rs k).map rowD)) s6' s7' s8') S
  | [], L, s6, s7, s8, h6, h7, _, _ => ⟨s6, s7, s8, h6, h7, by simp [forLoop, stepA]⟩
  | r :: rs, L, s6, s7, s8, h6, h7, hr, hL => by
    rw [List.length_cons, Nat.succ_mul] at hL
    have hrl := hr r List.mem_cons_self
    have hg : gpName 6 (rowD r) (rhoA n kd b rs0 (.val (.int (k : Nat))) (.own (L.map rowD)) s6 s7 s8) = some (rhoA n kd b rs0 (.val (.int (k : Nat))) (.own (L.map rowD)) (.val (rowD r)) s7 s8) := by
      show (if notOwn [s6] 0 = true then _ else _) = _
      rw [if_pos h6]; rfl
    obtain ⟨s7', s8', h7', e⟩ := places_loop (n := n) (kd := kd) (b := b) (rs0 := rs0) (S := S) (r := r) (k := k) (List.range (r.length - k)) L s7 s8 h7 (fun p hp => by rw [List.mem_range] at hp; omega) (by rw [List.length_range]; omega)
    have hi : mRng1 (bn2 (mB1 (mVar 6) dLen) (mVar 4) fun x y => lft (dSub x y)) (rhoA n kd b rs0 (.val (.int (k : Nat))) (.own (L.map rowD)) (.val (rowD r)) s7 s8) S = .ok ((List.range (r.length - k)).map fun p : Nat => D.int (p : Nat)) S := by
      refine (st_bnd (a := D.int ((r.length - k : Nat) : Int)) (S1 := S) (st_op (st_b1 (m := mVar 6) (a := rowD r) rfl (d := .int (r.length : Nat)) ?_) (n := mVar 4) rfl ?_)).trans ?_
      · show some (D.int ((r.map oD).length : Nat)) = _
        rw [List.length_map]
      · show some (D.int ((r.length : Nat) - (k : Nat) : Int)) = _
        congr 2
        omega
      · dsimp only
        rw [if_pos (by unfold big; simp only [Bool.and_eq_true, decide_eq_true_eq]; omega)]
        show Res.ok (rngD 0 _) S = _
        unfold rngD
        rw [Int.toNat_natCast]
        congr 1
        apply List.map_congr_left
        intro i _
        show D.int _ = D.int _
        congr 1
        omega
    obtain ⟨s6', s7'', s8'', h6', h7'', ih⟩ := rows_loop hk hlen rs (L ++ (List.range (r.length - k)).filterMap (placeK k r)) (.val (rowD r)) s7' s8' rfl h7' (fun q hq => hr q (List.mem_cons_of_mem _ hq)) (by
      have := List.length_filterMap_le (placeK k r) (List.range (r.length - k))
      rw [List.length_range] at this
      rw [List.length_append]; omega)
    refine ⟨s6', s7'', s8'', h6', h7'', ?_⟩
    rw [List.map_cons, st_for_nx hg ((st_for hi).trans e), ih, List.append_assoc]
    rfl
abbrev bodyN : MS := (sSeq (sE (bnd (ret []) fun ds => if ds.length ≤ 1000 then ret ds else bad) (sOwn 5))
  (sSeq (sFor (bnd (mVar 3) asL) (gpName 6) bodyR)
  (sMove 3 5)))
theorem step_len {rows : List Row} {k len : Nat} (h : ∀ r ∈ rows, r.length = len) : (stepA rows k).length ≤ rows.length * len ∧ ∀ r ∈ stepA rows k, r.length = len := by
  constructor
  · unfold stepA
    rw [List.length_flatMap]
    induction rows with
    | nil => simp
    | cons r rows ih =>
      rw [List.map_cons, List.sum_cons, List.length_cons, Nat.succ_mul]
      have h1 := ih fun q hq => h q (List.mem_cons_of_mem _ hq)
      have h2 := List.length_filterMap_le (placeK k r) (List.range (r.length - k))
      rw [List.length_range] at h2
      have h3 := h r List.mem_cons_self
      omega
  · intro r hr
    obtain ⟨q, hq, hr⟩ := List.mem_flatMap.mp hr
    obtain ⟨p, _, hr⟩ := List.mem_filterMap.mp hr
    unfold placeK at hr
    split at hr
    · cases hr
      rw [List.length_set, List.length_set]; exact h q hq
    · cases hr
theorem numbers_loop {len : Nat} (hlen : len ≤ 13) : ∀ (ks : List Nat) (rows : List Row) (s4 s5 s6 s7 s8 : SD), notOwn [s4] 0 = true → notOwn [s6] 0 = true → notOwn [s7] 0 = true → (∀ k ∈ ks, k ≤ len) → (∀ r ∈ rows, r.length = len) → rows.length * 13 ^ ks.length ≤ 13 ^ 6 →
    ∃ s4' s5' s6' s7' s8', forLoop (gpName 4) bodyN (ks.map fun p : Nat => D.int (p : Nat)) (rhoA n kd b (.lst (rows.map rowD)) s4 s5 s6 s7 s8) S = .nx (rhoA n kd b (.lst ((ks.foldl stepA rows).map rowD)) s4' s5' s6' s7' s8') S
  | [], rows, s4, s5, s6, s7, s8, _, _, _, _, _, _ => ⟨s4, s5, s6, s7, s8, rfl⟩
  | k :: ks, rows, s4, s5, s6, s7, s8, h4, h6, h7, hk, hr, hb => by
    have hg : gpName 4 (.int (k : Nat)) (rhoA n kd b (.lst (rows.map rowD)) s4 s5 s6 s7 s8) = some (rhoA n kd b (.lst (rows.map rowD)) (.val (.int (k : Nat))) s5 s6 s7 s8) := by
      show (if notOwn [s4] 0 = true then _ else _) = _
      rw [if_pos h4]; rfl
    rw [List.length_cons, Nat.pow_succ] at hb
    have hpos : 1 ≤ 13 ^ ks.length := Nat.one_le_pow _ _ (by decide)
    have hb2 : rows.length * 13 * 13 ^ ks.length ≤ 13 ^ 6 := by rw [Nat.mul_assoc, Nat.mul_comm 13]; exact hb
    have hb3 : rows.length * 13 ≤ 13 ^ 6 := Nat.le_trans (Nat.le_mul_of_pos_right _ hpos) hb2
    have h13 : (13 : Nat) ^ 6 = 4826809 := by decide
    rw [h13] at hb3
    have hb4 : rows.length * len ≤ rows.length * 13 := Nat.mul_le_mul_left _ hlen
    obtain ⟨s6', s7', s8', h6', h7', e⟩ := rows_loop (n := n) (kd := kd) (b := b) (rs0 := .lst (rows.map rowD)) (S := S) (hk k List.mem_cons_self) (by omega) rows [] s6 s7 s8 h6 h7 hr (by simp only [List.length_nil]; omega)
    have hbody : bodyN (rhoA n kd b (.lst (rows.map rowD)) (.val (.int (k : Nat))) s5 s6 s7 s8) S = .nx (rhoA n kd b (.lst ((stepA rows k).map rowD)) (.val (.int (k : Nat))) .no s6' s7' s8') S := by
      refine (st_seq (ρ' := rhoA n kd b (.lst (rows.map rowD)) (.val (.int (k : Nat))) (.own []) s6 s7 s8) (S1 := S) rfl).trans ?_
      refine (st_seq ((st_for (its := rows.map rowD) (S1 := S) rfl).trans e)).trans ?_
      rw [List.nil_append]
      rfl
    obtain ⟨l1, l2⟩ := step_len (k := k) hr
    obtain ⟨t4, t5, t6, t7, t8, ih⟩ := numbers_loop hlen ks (stepA rows k) (.val (.int (k : Nat))) .no s6' s7' s8' rfl h6' h7' (fun q hq => hk q (List.mem_cons_of_mem _ hq)) l2 (Nat.le_trans (Nat.mul_le_mul_right _ (Nat.le_trans l1 hb4)) hb2)
    exact ⟨t4, t5, t6, t7, t8, by rw [List.map_cons, st_for_nx hg hbody, ih]; rfl⟩
end
theorem blankD_ok {n : Nat} {hk : Bool} (hn : 1 ≤ n ∧ n ≤ 6) (S : DS) : mIf (bn2 (mVar 1) (ret (.str "whole")) fun x y => lft (dEq x y)) (bn2 (mLst (mCons (ret .non) (ret []))) (bn2 (ret (.int 2)) (mVar 0) fun x y => lft (dMul x y)) fun x y => lft (dMul x y)) (bn2 (bn2 (mLst (mCons (ret .non) (ret []))) (bn2 (bn2 (ret (.int 2)) (mVar 0) fun x y => lft (dMul x y)) (ret (.int 1)) fun x y => lft (dSub x y)) fun x y => lft (dMul x y)) (mLst (mCons (ret (.int 0)) (mCons (ret .non) (ret [])))) fun x y => lft (dAdd x y))
    [.val (.int (n : Nat)), .val (kindD hk), .no, .no, .no, .no, .no, .no, .no] S = .ok (.lst ((blankS n hk).map oD)) S := by
  match n, hn, hk with
  | 1, _, true => rfl
  | 1, _, false => rfl
  | 2, _, true => rfl
  | 2, _, false => rfl
  | 3, _, true => rfl
  | 3, _, false => rfl
  | 4, _, true => rfl
  | 4, _, false => rfl
  | 5, _, true => rfl
  | 5, _, false => rfl
  | 6, _, true => rfl
  | 6, _, false => rfl
  | 0, h, _ => exact absurd h.1 (by decide)
  | n + 7, h, _ => exact absurd h.2 (by omega)
theorem all_rows_ok {n : Nat} {hk : Bool} (hn : 1 ≤ n ∧ n ≤ 6) (hs : sortOk ((allS n hk).map rowD) = true) (S : DS) : f__law_all_rows [.int (n : Nat), kindD hk] S = .ok (.lst (sortD ((allS n hk).map rowD))) S := by
  refine runFn_rt (ρ := [.val (.int (n : Nat)), .val (kindD hk), .no, .no, .no, .no, .no, .no, .no]) rfl ?_
  refine (st_seq (ρ' := [.val (.int (n : Nat)), .val (kindD hk), .val (.lst ((blankS n hk).map oD)), .no, .no, .no, .no, .no, .no]) ((st_set (blankD_ok hn S)).trans rfl)).trans ?_
  refine (st_seq (ρ' := rhoA n (kindD hk) (.lst ((blankS n hk).map oD)) (.lst ([blankS n hk].map rowD)) .no .no .no .no .no) (S1 := S) rfl).trans ?_
  have hlen : (blankS n hk).length ≤ 13 ∧ n ≤ (blankS n hk).length := by
    unfold blankS
    cases hk <;> simp <;> omega
  have hi : mRngD (mVar 0) (ret (.int 0)) (rhoA n (kindD hk) (.lst ((blankS n hk).map oD)) (.lst ([blankS n hk].map rowD)) .no .no .no .no .no) S = .ok ((ups n).reverse.map fun k : Nat => .int (k : Nat)) S := by
    rw [← down_ups]
    refine (st_bn2 (a := D.int (n : Nat)) (b := D.int 0) rfl rfl).trans ?_
    dsimp only
    rw [if_pos (by unfold big; simp only [Bool.and_eq_true, decide_eq_true_eq]; omega)]
    show Res.ok _ _ = _
    congr 2
  obtain ⟨s4, s5, s6, s7, s8, e⟩ := numbers_loop (n := n) (kd := kindD hk) (b := .lst ((blankS n hk).map oD)) (S := S) (len := (blankS n hk).length) hlen.1 (ups n).reverse [blankS n hk] .no .no .no .no .no rfl rfl rfl (fun k hk => by
    rw [List.mem_reverse, ups_mem] at hk
    omega) (fun r hr => by rw [List.mem_singleton.mp hr]) (by
    rw [List.length_reverse, show (ups n).length = n by simp [ups], List.length_cons, List.length_nil, Nat.zero_add, Nat.one_mul]
    exact Nat.pow_le_pow_right (by decide) hn.2)
  refine (st_seq ((st_for hi).trans e)).trans (st_rt (st_b1 (m := mVar 3) (a := .lst ((allS n hk).map rowD)) rfl ?_))
  show (if _ then _ else _) = _
  rw [if_pos hs]
end Pf
end

section
set_option Elab.async false
set_option linter.all false
set_option maxRecDepth 100000
namespace Pf
open PySem PySem.Spec L2
theorem st_bng {α : Type} {m : M D} {f : D → M α} {d : D} {ρ : En} {S S1 : DS} {r : Res α} (h : m ρ S = .ok d S1) (h2 : f d ρ S1 = r) : bnd m f ρ S = r := (st_bnd h).trans h2
/-- what is asked of the rows of a size -/
def chkL (n : Nat) (hk : Bool) (res : List Row) : Bool :=
  Nat.ble res.length 200 && res.all (fun r => rowV n hk (rowD r) && Nat.ble r.length 1000) &&
  (match dSortSetK (.tup (res.map rowD)) with | some d => dNe (.lst (res.map rowD)) d == some false | none => false) &&
  (if n < 7 then sortOk ((allS n hk).map rowD) && okB (f__law_same [.tup (res.map rowD), .tup (sortK leD ((allS n hk).map rowD))] dsNil) else decide (res.length = if (decide (n = 7) && hk) = true then 124 else 0)) &&
  (hk || res.all fun r => dNotIn (.tup (r.map oD).reverse) (.tup (res.map rowD)) == some false)
def chkN (n : Nat) (hk : Bool) : Bool := match loopK n 201 10000 [blankS n hk] [] 0 with
  | some fd => chkL n hk fd.reverse
  | none => false
theorem rows_val (r : Row) : (r.map oD).all entB = true := by
  rw [List.all_map, List.all_eq_true]
  intro o _
  cases o <;> rfl
theorem gap_rows_few {n f : Nat} {hk : Bool} {res : List Row} (hf : f ≤ 100000) (hn : 1 ≤ n ∧ n ≤ 8) (h : loopR n 201 f [blankS n hk] [] = some res) (hl : res.length ≤ 200) (S : DS) : f_gap_rows [.int (n : Nat), kindD hk] S = .ok (.tup (res.map rowD)) S := by
  refine runFn_rt (ρ := [.val (.int (n : Nat)), .val (kindD hk), .no]) rfl ?_
  refine (st_seq (st_drop ((st_call (ds := [.int (n : Nat), .int 8, kindD hk]) (S1 := S) rfl rfl).trans (need_gaps_ok (most := 8) hn hk S)))).trans ?_
  refine (st_seq (ρ' := [.val (.int (n : Nat)), .val (kindD hk), .val (.lst (res.map rowD))]) ((st_set ((st_call (ds := [.int (n : Nat), kindD hk, .int ((201 : Nat) : Int)]) (S1 := S) rfl rfl).trans (rows_found_ok h hn hf))).trans rfl)).trans ?_
  have t : (bn2 (mB1 (mVar 2) dLen) (ret (.int 200)) fun x y => lft (dGt x y)) [.val (.int (n : Nat)), .val (kindD hk), .val (.lst (res.map rowD))] S = .ok false S := by
    refine st_op (st_b1 (m := mVar 2) (a := .lst (res.map rowD)) rfl rfl) (n := ret (.int 200)) rfl ?_
    rw [d_gti, decide_eq_false (by rw [List.length_map]; omega)]
  exact (st_seq ((st_if_f t).trans rfl)).trans (st_rt (st_b1 (m := mVar 2) (a := .lst (res.map rowD)) rfl rfl))
theorem gap_rows_many {n : Nat} {hk : Bool} {res : List Row} (hn : 1 ≤ n ∧ n ≤ 8) (h : loopR n 201 10000 [blankS n hk] [] = some res) (hl : 200 < res.length) (S : DS) : f_gap_rows [.int (n : Nat), kindD hk] S = .exc ("TooMany", some ("most", .int 200)) S := by
  refine runFn_exc (ρ := [.val (.int (n : Nat)), .val (kindD hk), .no]) rfl ?_
  refine (st_seq (st_drop ((st_call (ds := [.int (n : Nat), .int 8, kindD hk]) (S1 := S) rfl rfl).trans (need_gaps_ok (most := 8) hn hk S)))).trans ?_
  refine (st_seq (ρ' := [.val (.int (n : Nat)), .val (kindD hk), .val (.lst (res.map rowD))]) ((st_set ((st_call (ds := [.int (n : Nat), kindD hk, .int ((201 : Nat) : Int)]) (S1 := S) rfl rfl).trans (rows_found_ok h hn (by decide)))).trans rfl)).trans ?_
  have t : (bn2 (mB1 (mVar 2) dLen) (ret (.int 200)) fun x y => lft (dGt x y)) [.val (.int (n : Nat)), .val (kindD hk), .val (.lst (res.map rowD))] S = .ok true S := by
    refine st_op (st_b1 (m := mVar 2) (a := .lst (res.map rowD)) rfl rfl) (n := ret (.int 200)) rfl ?_
    rw [d_gti, decide_eq_true (by rw [List.length_map]; omega)]
  exact st_seq_x ((st_if_t t).trans rfl)
theorem listed_few {n f : Nat} {hk : Bool} {res : List Row} (hf : f ≤ 100000) (hn : 1 ≤ n ∧ n ≤ 8) (h8 : ¬ (n = 8 ∧ hk = false)) (hR : loopR n 201 f [blankS n hk] [] = some res) (hc : chkL n hk res = true) (S : DS) : f__law_listed [.int (n : Nat), kindD hk] S = .ok (.bl true) S := by
  unfold chkL at hc
  obtain ⟨hc, c5⟩ := Bool.and_eq_true_iff.mp hc
  obtain ⟨hc, c4⟩ := Bool.and_eq_true_iff.mp hc
  obtain ⟨hc, c3⟩ := Bool.and_eq_true_iff.mp hc
  obtain ⟨c1, c2⟩ := Bool.and_eq_true_iff.mp hc
  rw [Nat.ble_eq] at c1
  simp only [Bool.and_eq_true, Nat.ble_eq, List.all_eq_true] at c2
  have hg := gap_rows_few hf hn hR c1
  refine runFn_rt (ρ := [.val (.int (n : Nat)), .val (kindD hk), .no, .no, .no]) rfl ?_
  have eqn : ∀ (k : Nat) (ρ : En), mVar 0 ρ S = .ok (.int (n : Nat)) S → (bn2 (mVar 0) (ret (.int (k : Nat))) fun x y => lft (dEq x y)) ρ S = .ok (decide (n = k)) S := fun k ρ h => by
    refine st_op h (n := ret (.int (k : Nat))) rfl ?_
    rw [d_eqi]
    congr 1
    exact decide_eq_decide.mpr (by omega)
  have t0 : (mAndT (bn2 (mVar 0) (ret (.int 8)) fun x y => lft (dEq x y)) (bn2 (mVar 1) (ret (.str "whole")) fun x y => lft (dEq x y))) [.val (.int (n : Nat)), .val (kindD hk), .no, .no, .no] S = .ok false S := by
    refine (st_and (eqn 8 _ rfl) fun _ => st_op (m := mVar 1) (n := ret (.str "whole")) (S1 := S) rfl rfl (kind_whole hk)).trans ?_
    congr 1
    cases hk with
    | true => simp
    | false => simp; exact fun e => h8 ⟨e, rfl⟩
  refine (st_seq ((st_if_f t0).trans rfl)).trans ?_
  refine (st_seq (ρ' := [.val (.int (n : Nat)), .val (kindD hk), .no, .val (.tup (res.map rowD)), .no]) ((st_set (show mCallK [1, 0] (mCons (mVar 1) (mCons (mVar 0) (ret []))) f_gap_rows [.val (.int (n : Nat)), .val (kindD hk), .no, .no, .no] S = .ok (.tup (res.map rowD)) S from hg S)).trans rfl)).trans ?_
  generalize hρ : [SD.val (.int (n : Nat)), .val (kindD hk), .no, .val (.tup (res.map rowD)), .no] = ρ
  have v0 : mVar 0 ρ S = .ok (.int (n : Nat)) S := by rw [← hρ]; rfl
  have v1 : mVar 1 ρ S = .ok (kindD hk) S := by rw [← hρ]; rfl
  have v3 : mVar 3 ρ S = .ok (.tup (res.map rowD)) S := by rw [← hρ]; rfl
  have kh := st_op v1 (n := ret (.str "hooked")) (S2 := S) rfl (kind_hooked hk)
  -- against all rows
  have t1 : (mAndT (bn2 (mVar 0) (ret (.int 7)) fun x y => lft (dLt x y)) (mNotT (bnd (mCall 2 (mCons (mVar 3) (mCons (mB1 (mCall 2 (mCons (mVar 0) (mCons (mVar 1) (ret []))) f__law_all_rows) dTuple) (ret []))) f__law_same) asB))) ρ S = .ok false S := by
    have hlt : (bn2 (mVar 0) (ret (.int 7)) fun x y => lft (dLt x y)) ρ S = .ok (decide (n < 7)) S := by
      refine st_op v0 (n := ret (.int 7)) rfl ?_
      rw [d_lti]
      congr 1
      exact decide_eq_decide.mpr (by omega)
    by_cases h7 : n < 7
    · rw [decide_eq_true h7] at hlt
      rw [if_pos h7, Bool.and_eq_true] at c4
      refine (st_and_t hlt).trans (st_not (k := true) (st_asB ((st_call (ds := [.tup (res.map rowD), .tup (sortD ((allS n hk).map rowD))]) (S1 := S) (st_cons v3 (st_cons (st_b1 ((st_call (st_cons v0 (st_cons v1 rfl)) rfl).trans (all_rows_ok ⟨hn.1, by omega⟩ c4.1 S)) rfl) rfl)) rfl).trans ?_)))
      have := c4.2
      rw [sortK_eq] at this
      exact okB_at this S
    · rw [decide_eq_false h7] at hlt
      exact st_and_f hlt
  refine (st_seq ((st_if_f t1).trans rfl)).trans ?_
  have t2 : (mOrT (mNotT (bnd (mB1 (mVar 3) (dIsT "tuple")) asB)) (mOrT (bn2 (bnd (mLc (bnd (mVar 3) asL) [4] (gpName 4) (mNotT (bnd (mCall 3 (mCons (mVar 0) (mCons (mVar 1) (mCons (mVar 4) (ret [])))) f__law_is_gap) asB)) (ret (.int 1))) fun ds => ret (.lst ds)) (mLst (ret [])) fun x y => lft (dNe x y)) (bn2 (mB1 (mVar 3) dList) (mB1 (mVar 3) dSortSet) fun x y => lft (dNe x y)))) ρ S = .ok false S := by
    refine (st_or_f (S1 := S) (st_not (k := true) (st_asB (st_b1 v3 rfl)))).trans ((st_or_f (S1 := S) ?_).trans ?_)
    · have hlc := lc_ok (ρ := ρ) (S := S) (vs := [4]) (g := gpName 4) (tt := mNotT (bnd (mCall 3 (mCons (mVar 0) (mCons (mVar 1) (mCons (mVar 4) (ret [])))) f__law_is_gap) asB)) (te := ret (.int 1))
        rowD (fun r => !rowV n hk (rowD r)) (fun _ => .int 1) (fun r => [SD.val (.int (n : Nat)), .val (kindD hk), .no, .val (.tup (res.map rowD)), .val (rowD r)]) res fun r hr => by
          have := (c2 r hr).2
          refine ⟨by rw [← hρ]; rfl, st_not (st_asB ((st_call (ds := [.int (n : Nat), kindD hk, rowD r]) (S1 := S) rfl rfl).trans (is_gap_ok ⟨hn.1, by omega⟩ (.inl ⟨_, rfl, rows_val r, by rw [List.length_map]; exact this⟩) S))), fun _ => rfl⟩
      refine st_op ((st_bnd (st_lc (S1 := S) ((st_bnd v3).trans rfl) (by rw [List.length_map]; omega) (by rw [← hρ]; rfl) hlc)).trans rfl) (n := mLst (ret [])) rfl ?_
      rw [dNe_ones, filter_empty]
      simp only [Bool.not_not]
      rw [List.all_eq_true.mpr fun r hr => (c2 r hr).1]
      rfl
    · rw [← dSortSet_K] at c3
      split at c3
      · rename_i d hd
        exact st_op (st_b1 v3 rfl) (st_b1 v3 hd) (by simpa using c3)
      · cases c3
  refine (st_seq ((st_if_f t2).trans rfl)).trans ?_
  have t3 : (mAndT (bn2 (mVar 0) (ret (.int 6)) fun x y => lft (dGt x y)) (bn2 (mB1 (mVar 3) dLen) (mIf (mAndT (bn2 (mVar 0) (ret (.int 7)) fun x y => lft (dEq x y)) (bn2 (mVar 1) (ret (.str "hooked")) fun x y => lft (dEq x y))) (ret (.int 124)) (ret (.int 0))) fun x y => lft (dNe x y))) ρ S = .ok false S := by
    have hgt : (bn2 (mVar 0) (ret (.int 6)) fun x y => lft (dGt x y)) ρ S = .ok (decide (6 < n)) S := by
      refine st_op v0 (n := ret (.int 6)) rfl ?_
      rw [d_gti]
      congr 1
      exact decide_eq_decide.mpr (by omega)
    by_cases h7 : n < 7
    · rw [decide_eq_false (by omega)] at hgt
      exact st_and_f hgt
    · rw [decide_eq_true (by omega)] at hgt
      rw [if_neg h7, decide_eq_true_eq] at c4
      have hif : mIf (mAndT (bn2 (mVar 0) (ret (.int 7)) fun x y => lft (dEq x y)) (bn2 (mVar 1) (ret (.str "hooked")) fun x y => lft (dEq x y))) (ret (D.int 124)) (ret (.int 0)) ρ S = .ok (.int ((if (decide (n = 7) && hk) = true then 124 else 0 : Nat) : Int)) S := by
        have e7 : (bn2 (mVar 0) (ret (.int 7)) fun x y => lft (dEq x y)) ρ S = .ok (decide (n = 7)) S := eqn 7 ρ v0
        rw [st_ifM (st_and e7 fun _ => kh)]
        cases decide (n = 7) && hk <;> rfl
      refine (st_and_t hgt).trans (st_op (st_b1 v3 (d := .int (res.length : Nat)) ?_) hif ?_)
      · show some (D.int _) = _
        rw [List.length_map]
      · show (dEq _ _).map _ = _
        rw [d_eqi, decide_eq_true (by rw [c4])]
        rfl
  refine (st_seq ((st_if_f t3).trans rfl)).trans (st_rt ?_)
  refine st_orD (st_op (f := fun x y => mB (dEq x y)) v1 (n := ret (.str "hooked")) rfl (d := .bl hk) (by show mB _ = _; rw [kind_hooked]; rfl)) (fun hf => ?_) (fun _ => rfl)
  rw [hf] at c5
  rw [Bool.false_or, List.all_eq_true] at c5
  have hlc := lc_ok (ρ := ρ) (S := S) (vs := [4]) (g := gpName 4) (tt := bn2 (mB1 (mVar 4) dRevTuple) (mVar 3) fun x y => lft (dNotIn x y)) (te := ret (.int 1))
    rowD (fun _ => false) (fun _ => .int 1) (fun r => [SD.val (.int (n : Nat)), .val (kindD hk), .no, .val (.tup (res.map rowD)), .val (rowD r)]) res fun r hr => ⟨by rw [← hρ]; rfl, st_op (st_b1 (m := mVar 4) (a := rowD r) rfl (d := .tup (r.map oD).reverse) rfl) (n := mVar 3) (b := .tup (res.map rowD)) rfl (by simpa using c5 r hr), fun _ => rfl⟩
  refine st_op (f := fun x y => mB (dEq x y)) ((st_bnd (st_lc (S1 := S) ((st_bnd v3).trans rfl) (by rw [List.length_map]; omega) (by rw [← hρ]; rfl) hlc)).trans rfl) (n := mLst (ret [])) rfl ?_
  show mB _ = _
  rw [dEq_ones, filter_empty]
  simp
theorem listed_many {n : Nat} {hk : Bool} {res : List Row} (hn : 1 ≤ n ∧ n ≤ 8) (h8 : n = 8 ∧ hk = false) (h : loopR n 201 10000 [blankS n hk] [] = some res) (hl : 200 < res.length) (S : DS) : f__law_listed [.int (n : Nat), kindD hk] S = .ok (.bl true) S := by
  have hg := gap_rows_many hn h hl S
  refine runFn_rt (ρ := [.val (.int (n : Nat)), .val (kindD hk), .no, .no, .no]) rfl (st_seq_rt ?_)
  have t0 : (mAndT (bn2 (mVar 0) (ret (.int 8)) fun x y => lft (dEq x y)) (bn2 (mVar 1) (ret (.str "whole")) fun x y => lft (dEq x y))) [.val (.int (n : Nat)), .val (kindD hk), .no, .no, .no] S = .ok true S := by
    have e1 : (bn2 (mVar 0) (ret (.int 8)) fun x y => lft (dEq x y)) [.val (.int (n : Nat)), .val (kindD hk), .no, .no, .no] S = .ok true S := st_op (m := mVar 0) (n := ret (.int 8)) (S1 := S) rfl rfl (by rw [d_eqi, h8.1]; rfl)
    exact (st_and_t e1).trans (st_op (m := mVar 1) (n := ret (.str "whole")) (S1 := S) rfl rfl (by rw [kind_whole, h8.2]; rfl))
  refine (st_if_t t0).trans ?_
  have e : mCauL XC (mCall 2 (mCons (mVar 0) (mCons (mVar 1) (ret []))) f_gap_rows) [.val (.int (n : Nat)), .val (kindD hk), .no, .no, .no] S = .ok (.exc "TooMany" (some ("most", .int 200))) S := by
    have e2 : mCall 2 (mCons (mVar 0) (mCons (mVar 1) (ret []))) f_gap_rows [.val (.int (n : Nat)), .val (kindD hk), .no, .no, .no] S = .exc ("TooMany", some ("most", .int 200)) S := (st_call (ds := [.int (n : Nat), kindD hk]) (S1 := S) rfl rfl).trans hg
    unfold mCauL
    rw [show ([SD.val (.int (n : Nat)), .val (kindD hk), .no, .no, .no] : En).map hid = [.val (.int (n : Nat)), .val (kindD hk), .no, .no, .no] from rfl, e2]
    rfl
  refine (st_seq ((st_set e).trans rfl)).trans (st_rt ?_)
  refine st_andD (k := true) rfl (fun _ => ?_) (fun h => by cases h)
  refine (st_call (ds := [.int 200, .int 200]) (S1 := S) rfl rfl).trans ?_
  exact okB_at (by decide +kernel) S
end Pf
end

section
set_option Elab.async false
set_option linter.all false
set_option maxRecDepth 100000
namespace Pf
open PySem PySem.Spec L2
def chkM (n : Nat) (hk : Bool) : Bool := match loopK n 201 10000 [blankS n hk] [] 0 with
  | some fd => Nat.blt 200 fd.length
  | none => false
theorem ck5 : ∀ n : Fin 6, 1 ≤ n.val → ∀ hk : Bool, chkN n.val hk = true := by decide +kernel
theorem ck6w : chkN 6 false = true := by decide +kernel
theorem ck6h : chkN 6 true = true := by decide +kernel
theorem ck7w : chkN 7 false = true := by decide +kernel
theorem ck7h : chkN 7 true = true := by decide +kernel
def first8 : List Row := kidsK (blankS 8 true) 8 []
def part8 (i : Nat) : Bool := match first8[i]? with
  | some r => noneK 8 4000 [r]
  | none => true
theorem p8_0 : part8 0 = true := by decide +kernel
theorem p8_1 : part8 1 = true := by decide +kernel
theorem p8_2 : part8 2 = true := by decide +kernel
theorem p8_3 : part8 3 = true := by decide +kernel
theorem p8_4 : part8 4 = true := by decide +kernel
theorem p8_5 : part8 5 = true := by decide +kernel
theorem p8_6 : part8 6 = true := by decide +kernel
theorem p8_7 : part8 7 = true := by decide +kernel
theorem len8 : first8.length ≤ 8 := by decide +kernel
theorem all8 : ∀ r ∈ first8, noneK 8 4000 [r] = true := fun r hr => by
  obtain ⟨i, hi, e⟩ := List.getElem_of_mem hr
  have h8 := len8
  have hp : part8 i = true := by
    have : i = 0 ∨ i = 1 ∨ i = 2 ∨ i = 3 ∨ i = 4 ∨ i = 5 ∨ i = 6 ∨ i = 7 := by omega
    rcases this with rfl | rfl | rfl | rfl | rfl | rfl | rfl | rfl
    · exact p8_0
    · exact p8_1
    · exact p8_2
    · exact p8_3
    · exact p8_4
    · exact p8_5
    · exact p8_6
    · exact p8_7
  unfold part8 at hp
  rw [List.getElem?_eq_getElem hi, e] at hp
  exact hp
theorem loop8h : ∃ f, f ≤ 100000 ∧ loopR 8 201 f [blankS 8 true] [] = some [] := by
  refine ⟨4000 * first8.length + 1 + 1, by have := len8; omega, noneK_loop (by decide) ?_⟩
  have h := noneK_all all8
  have hf : fullK (blankS 8 true) = false := rfl
  rw [noneK, hf]
  exact h
theorem chk8h : chkL 8 true [] = true := by decide +kernel
theorem ck8w : chkM 8 false = true := by decide +kernel
theorem ck_all {n : Nat} {hk : Bool} (hn : 1 ≤ n ∧ n ≤ 7) : chkN n hk = true := by
  by_cases h : n ≤ 5
  · exact ck5 ⟨n, by omega⟩ hn.1 hk
  · have : n = 6 ∨ n = 7 := by omega
    rcases this with rfl | rfl
    · cases hk
      · exact ck6w
      · exact ck6h
    · cases hk
      · exact ck7w
      · exact ck7h
theorem listed_ok {n : Nat} {hk : Bool} (hn : 1 ≤ n ∧ n ≤ 8) (S : DS) : f__law_listed [.int (n : Nat), kindD hk] S = .ok (.bl true) S := by
  by_cases h8 : n = 8
  · cases hk with
    | false =>
      have c : chkM n false = true := by rw [h8]; exact ck8w
      unfold chkM at c
      split at c
      · rename_i fd hloop
        have hR : loopR n 201 10000 [blankS n false] [] = some fd.reverse := loopK_eq 10000 [blankS n false] [] fd hloop
        exact listed_many hn ⟨h8, rfl⟩ hR (by rw [List.length_reverse]; exact Nat.blt_eq.mp c) S
      · cases c
    | true =>
      obtain ⟨f, hf, hR⟩ := loop8h
      have hR' : loopR n 201 f [blankS n true] [] = some [] := by rw [h8]; exact hR
      have hc : chkL n true [] = true := by rw [h8]; exact chk8h
      exact listed_few hf hn (fun z => by cases z.2) hR' hc S
  · have c := ck_all (hk := hk) (n := n) ⟨hn.1, by omega⟩
    unfold chkN at c
    split at c
    · rename_i fd hloop
      have hR : loopR n 201 10000 [blankS n hk] [] = some fd.reverse := loopK_eq 10000 [blankS n hk] [] fd hloop
      exact listed_few (by decide) hn (fun z => h8 z.1) hR c S
    · cases c
section
variable {sc : D} {S : DS}
abbrev rhoL (sc : D) (s2 s3 s4 : SD) : En := [.val sc, .val .drw, s2, s3, s4]
abbrev kindB : MS := (sIf (mOrT (mNotT (bnd (mCall 3 (mCons (mVar 1) (mCons (mVar 3) (mCons (mVar 4) (ret [])))) f__law_told) asB)) (mNotT (bnd (mCall 3 (mCons (mVar 1) (mCons (bn2 (ret (.int 1)) (mCall 2 (mCons (mVar 1) (mCons (ret (.int 8)) (ret []))) f__law_draw) fun x y => lft (dAdd x y)) (mCons (mVar 4) (ret [])))) f__law_told) asB))) (sE (ret (.bl false)) sRt) sNil)
theorem kind_step {n m : Nat} {hk : Bool} {s2 : SD} (hn : 1 ≤ n ∧ n ≤ 40) (hS : DOk (m + 41) S) : ∃ S', kindB (rhoL sc s2 (.val (.int (n : Nat))) (.val (kindD hk))) S = .nx (rhoL sc s2 (.val (.int (n : Nat))) (.val (kindD hk))) S' ∧ DOk m S' := by
  obtain ⟨S1, e1, h1⟩ := told_ok (n := n) (hk := hk) (m := m + 21) hn hS
  obtain ⟨r, S2, e2, hr, h2⟩ := draw_n (ρ := rhoL sc s2 (.val (.int (n : Nat))) (.val (kindD hk))) (S := S1) (r := 8) (ms := mCons (mVar 1) (mCons (ret (.int 8)) (ret []))) rfl (m := m + 20) h1 (by omega) (by omega)
  obtain ⟨S3, e3, h3⟩ := told_ok (n := 1 + r) (hk := hk) (m := m) ⟨by omega, by omega⟩ h2
  refine ⟨S3, (st_if_f ?_).trans rfl, h3⟩
  refine (st_or_f (st_not (k := true) (st_asB ((st_call (ds := [.drw, .int (n : Nat), kindD hk]) (S1 := S) rfl rfl).trans e1)))).trans ?_
  refine st_not (k := true) (st_asB ((st_call (ds := [.drw, .int ((1 + r : Nat) : Int), kindD hk]) (S1 := S2) ?_ rfl).trans e3))
  refine st_cons (d := .drw) (S1 := S1) rfl (st_cons (st_op (m := ret (.int 1)) rfl e2 (f := dAdd) (d := .int ((1 + r : Nat) : Int)) rfl) (st_cons (d := kindD hk) (S1 := S2) rfl rfl))
abbrev turnB : MS := (sSeq (sE (bn2 (ret (.int 1)) (mCall 2 (mCons (mVar 1) (mCons (ret (.int 40)) (ret []))) f__law_draw) fun x y => lft (dAdd x y)) (sSet 3))
  (sSeq (sFor (bnd (mLst (mCons (ret (.str "whole")) (mCons (ret (.str "hooked")) (ret [])))) asL) (gpName 4) kindB)
  (sIf (mOrT (mNotT (bnd (mCall 2 (mCons (bn2 (ret (.int 1)) (mCall 2 (mCons (mVar 1) (mCons (ret (.int 8)) (ret []))) f__law_draw) fun x y => lft (dAdd x y)) (mCons (mCall 2 (mCons (mVar 1) (mCons (mLst (mCons (ret (.str "whole")) (mCons (ret (.str "hooked")) (ret [])))) (ret []))) f__law_pick) (ret []))) f__law_listed) asB)) (mNotT (bnd (mCall 1 (mCons (mVar 1) (ret [])) f__law_refused) asB))) (sE (ret (.bl false)) sRt) sNil)))
theorem turn_step {m : Nat} {s2 s3 s4 : SD} (h4 : notOwn [s4] 0 = true) (hS : DOk (m + 89) S) : ∃ s3' s4' S', notOwn [s4'] 0 = true ∧ turnB (rhoL sc s2 s3 s4) S = .nx (rhoL sc s2 s3' s4') S' ∧ DOk m S' := by
  obtain ⟨r, S1, e1, hr, h1⟩ := draw_n (ρ := rhoL sc s2 s3 s4) (S := S) (r := 40) (ms := mCons (mVar 1) (mCons (ret (.int 40)) (ret []))) rfl (m := m + 88) hS (by omega) (by omega)
  obtain ⟨S2, e2, h2⟩ := kind_step (sc := sc) (s2 := s2) (n := 1 + r) (hk := false) (m := m + 47) ⟨by omega, by omega⟩ h1
  obtain ⟨S3, e3, h3⟩ := kind_step (sc := sc) (s2 := s2) (n := 1 + r) (hk := true) (m := m + 6) ⟨by omega, by omega⟩ h2
  obtain ⟨q, S4, e4, hq, h4'⟩ := draw_n (ρ := rhoL sc s2 (.val (.int ((1 + r : Nat) : Int))) (.val (kindD true))) (S := S3) (r := 8) (ms := mCons (mVar 1) (mCons (ret (.int 8)) (ret []))) rfl (m := m + 5) h3 (by omega) (by omega)
  obtain ⟨k, S5, hk, e5, h5⟩ := pick_m (ρ := rhoL sc s2 (.val (.int ((1 + r : Nat) : Int))) (.val (kindD true))) (S := S4) (m := m + 4) (ds := [.str "whole", .str "hooked"]) (ms := mCons (mVar 1) (mCons (mLst (mCons (ret (.str "whole")) (mCons (ret (.str "hooked")) (ret [])))) (ret []))) rfl h4' (by simp) (by simp)
  obtain ⟨b, rfl⟩ : ∃ b, k = kindD b := by
    simp only [List.mem_cons, List.not_mem_nil, or_false] at hk
    rcases hk with rfl | rfl
    · exact ⟨false, rfl⟩
    · exact ⟨true, rfl⟩
  obtain ⟨S6, e6, h6⟩ := refused_ok h5
  refine ⟨_, _, S6, ?_, (st_seq ((st_set (st_op (m := ret (.int 1)) rfl e1 (f := dAdd) (d := .int ((1 + r : Nat) : Int)) rfl)).trans rfl)).trans ((st_seq (ρ' := rhoL sc s2 (.val (.int ((1 + r : Nat) : Int))) (.val (kindD true))) (S1 := S3) ?_).trans ((st_if_f ?_).trans rfl)), h6⟩
  · rfl
  · refine (st_for (its := [kindD false, kindD true]) (S1 := S1) rfl).trans ?_
    refine (st_for_nx (ρ' := rhoL sc s2 (.val (.int ((1 + r : Nat) : Int))) (.val (kindD false))) ?_ e2).trans ((st_for_nx (ρ' := rhoL sc s2 (.val (.int ((1 + r : Nat) : Int))) (.val (kindD true))) rfl e3).trans rfl)
    show (if notOwn [s4] 0 = true then _ else _) = _
    rw [if_pos h4]; rfl
  · refine (st_or_f (st_not (k := true) (st_asB ((st_call (ds := [.int ((1 + q : Nat) : Int), kindD b]) (S1 := S5) ?_ rfl).trans (listed_ok ⟨by omega, by omega⟩ S5))))).trans ?_
    · exact st_cons (st_op (m := ret (.int 1)) rfl e4 (f := dAdd) (d := .int ((1 + q : Nat) : Int)) rfl) (st_cons e5 rfl)
    · exact st_not (k := true) (st_asB ((st_call (ds := [.drw]) (S1 := S5) rfl rfl).trans e6))
theorem turns_loop {m : Nat} : ∀ (l : List D) (s2 s3 s4 : SD) (S : DS), notOwn [s2] 0 = true → notOwn [s4] 0 = true → DOk (89 * l.length + m) S → ∃ ρ' S', forLoop (gpName 2) turnB l (rhoL sc s2 s3 s4) S = .nx ρ' S' ∧ DOk m S'
  | [], s2, s3, s4, S, _, _, hS => ⟨_, S, rfl, hS.less (by omega)⟩
  | d :: l, s2, s3, s4, S, h2, h4, hS => by
    have hg : gpName 2 d (rhoL sc s2 s3 s4) = some (rhoL sc (.val d) s3 s4) := by
      show (if notOwn [s2] 0 = true then _ else _) = _
      rw [if_pos h2]; rfl
    rw [List.length_cons] at hS
    obtain ⟨s3', s4', S1, h4', e, h1⟩ := turn_step (sc := sc) (s2 := .val d) (s3 := s3) (m := 89 * l.length + m) h4 (hS.less (by omega))
    rw [st_for_nx hg e]
    exact turns_loop l _ _ _ S1 rfl h4' h1
end
theorem intsD_of' : ∀ ns : List Int, intsD (intsOf ns) = some ns
  | [] => rfl
  | n :: ns => by
    show (intsD (intsOf ns)).map _ = _
    rw [intsD_of' ns]; rfl
theorem law_true (ns : List Int) (h : ns.length ≤ 63) : ∃ S', b_law (SD.val (.frl (intsOf ns)) :: List.replicate 4 SD.no) dsNil = .rt (.bl true) S' := by
  have hS := DOk.begun h
  have hi : mRng1 (bn2 (ret (.int 2)) (bn2 (mB1 (mVar 0) dLen) (ret (.int 4)) fun x y => lft (dMin x y)) fun x y => lft (dAdd x y)) (rhoL (.frl (intsOf ns)) .no .no .no) (begunDS ns) = .ok (rngD 0 (2 + min ns.length 4)) (begunDS ns) := by
    have hl : (intsOf ns).length = ns.length := List.length_map _
    refine (st_bnd (a := D.int ((2 + min ns.length 4 : Nat) : Int)) (S1 := begunDS ns) (st_op (m := ret (.int 2)) rfl (st_op (st_b1 (m := mVar 0) (a := .frl (intsOf ns)) rfl (d := .int (ns.length : Nat)) ?_) (n := ret (.int 4)) rfl (f := dMin) (d := .int ((min ns.length 4 : Nat) : Int)) ?_) ?_)).trans ?_
    · show some (D.int _) = _
      rw [hl]
    · show some (D.int _) = some (D.int _)
      congr 2
      by_cases c : ns.length ≤ 4
      · rw [Nat.min_eq_left c]
        split <;> omega
      · rw [Nat.min_eq_right (by omega)]
        split <;> omega
    · show some (D.int _) = some (D.int _)
      congr 2
    · dsimp only
      rw [if_pos (by unfold big; simp only [Bool.and_eq_true, decide_eq_true_eq]; omega), Int.toNat_natCast]
      rfl
  obtain ⟨ρ', S', e, _⟩ := turns_loop (sc := .frl (intsOf ns)) (m := 0) (rngD 0 (2 + min ns.length 4)) .no .no .no (begunDS ns) rfl rfl (hS.less (by unfold rngD; rw [List.length_map, List.length_range]; omega))
  refine ⟨S', ?_⟩
  show mBegun 0 1 r_law _ _ = _
  unfold mBegun
  show (match intsD (intsOf ns) with | some ns' => _ | none => RS.bad) = _
  rw [show intsD (intsOf ns) = some ns from intsD_of' ns]
  dsimp only
  rw [if_pos ⟨rfl, by omega⟩]
  have r : r_law ((SD.val (.frl (intsOf ns)) :: List.replicate 4 SD.no).set 1 (.val .drw)) (begunDS ns) = .rt (.bl true) S' := (st_seq ((st_for hi).trans e)).trans (st_rt rfl)
  rw [r]
end Pf
end

section
set_option Elab.async false
set_option linter.all false
open PySem PySem.W PyProof.Rows
set_option maxRecDepth 100000 in
set_option maxHeartbeats 0 in
theorem PySem.Challenge.cw_pairsonce_k67_whole_gap_rows_of_every_si_holds : PySem.Challenge.rw_pairsonce_k67_whole_gap_rows_of_every_si.Holds := by
  w_on; o_law; k_head; (case hw => w_witness2)
  k_fill
  refine LamX.walk_ofTs (l := PySem.Challenge.rw_pairsonce_k67_whole_gap_rows_of_every_si) (n := 63) (k := 10) (x := "script") (CX := fun w => L2.CX PySem.Challenge.rw_pairsonce_k67_whole_gap_rows_of_every_si.prog w) rfl (by decide) rfl ⟨rfl, by decide, by decide⟩ (fun w h Y => PySem.W.km_in_of Y) ?F ?C
  case C =>
    rintro w H s e s' ⟨a, B, H2, cls, d, _, _, _, _, _, _, _, z⟩
    exact z
  case F =>
    intro w mg fa h Y KX G hmg
    have hTab := PySem.W.km_tabs_of Y
    have h_is_whole := Pf.def_mk (x := "is_whole") (st := Pf.s_is_whole) (ps := ["value"]) KX G (by k_is) (by k_is) (by k_is) (by k_is) (fun _ _ _ _ _ _ us hl => match us, hl with | [_], _ => rfl)
    have h_need_whole := Pf.def_mk (x := "need_whole") (st := Pf.s_need_whole) (ps := ["value", "low", "high", "word"]) KX G (by k_is) (by k_is) (by k_is) (by k_is) (fun _ _ _ _ _ _ us hl => match us, hl with | [_, _, _, _], _ => rfl)
    have h_need_gaps := Pf.def_mk (x := "need_gaps") (st := Pf.s_need_gaps) (ps := ["n", "most", "kind"]) KX G (by k_is) (by k_is) (by k_is) (by k_is) (fun _ _ _ _ _ _ us hl => match us, hl with | [_, _, _], _ => rfl)
    have h_is_row_of := Pf.def_mk (x := "is_row_of") (st := Pf.s_is_row_of) (ps := ["n", "kind", "value"]) KX G (by k_is) (by k_is) (by k_is) (by k_is) (fun _ _ _ _ _ _ us hl => match us, hl with | [_, _, _], _ => rfl)
    have h_is_gap_row := Pf.def_mk (x := "is_gap_row") (st := Pf.s_is_gap_row) (ps := ["n", "kind", "value"]) KX G (by k_is) (by k_is) (by k_is) (by k_is) (fun _ _ _ _ _ _ us hl => match us, hl with | [_, _, _], _ => rfl)
    have h_blank_row := Pf.def_mk (x := "blank_row") (st := Pf.s_blank_row) (ps := ["n", "kind"]) KX G (by k_is) (by k_is) (by k_is) (by k_is) (fun _ _ _ _ _ _ us hl => match us, hl with | [_, _], _ => rfl)
    have h_filled_first := Pf.def_mk (x := "filled_first") (st := Pf.s_filled_first) (ps := ["row", "number"]) KX G (by k_is) (by k_is) (by k_is) (by k_is) (fun _ _ _ _ _ _ us hl => match us, hl with | [_, _], _ => rfl)
    have h_rows_found := Pf.def_mk (x := "rows_found") (st := Pf.s_rows_found) (ps := ["n", "kind", "most"]) KX G (by k_is) (by k_is) (by k_is) (by k_is) (fun _ _ _ _ _ _ us hl => match us, hl with | [_, _, _], _ => rfl)
    have h_gap_rows := Pf.def_mk (x := "gap_rows") (st := Pf.s_gap_rows) (ps := ["n", "kind"]) KX G (by k_is) (by k_is) (by k_is) (by k_is) (fun _ _ _ _ _ _ us hl => match us, hl with | [_, _], _ => rfl)
    have h_pairs_of_four := Pf.def_mk (x := "pairs_of_four") (st := Pf.s_pairs_of_four) (ps := ["s"]) KX G (by k_is) (by k_is) (by k_is) (by k_is) (fun _ _ _ _ _ _ us hl => match us, hl with | [_], _ => rfl)
    have h_pairs_of_five := Pf.def_mk (x := "pairs_of_five") (st := Pf.s_pairs_of_five) (ps := ["s"]) KX G (by k_is) (by k_is) (by k_is) (by k_is) (fun _ _ _ _ _ _ us hl => match us, hl with | [_], _ => rfl)
    have h_pairs_of_six := Pf.def_mk (x := "pairs_of_six") (st := Pf.s_pairs_of_six) (ps := ["s"]) KX G (by k_is) (by k_is) (by k_is) (by k_is) (fun _ _ _ _ _ _ us hl => match us, hl with | [_], _ => rfl)
    have h_pairs_of_seven := Pf.def_mk (x := "pairs_of_seven") (st := Pf.s_pairs_of_seven) (ps := ["s"]) KX G (by k_is) (by k_is) (by k_is) (by k_is) (fun _ _ _ _ _ _ us hl => match us, hl with | [_], _ => rfl)
    have h_row_by_places := Pf.def_mk (x := "row_by_places") (st := Pf.s_row_by_places) (ps := ["size", "pairs"]) KX G (by k_is) (by k_is) (by k_is) (by k_is) (fun _ _ _ _ _ _ us hl => match us, hl with | [_, _], _ => rfl)
    have h_great_row := Pf.def_mk (x := "great_row") (st := Pf.s_great_row) (ps := ["n"]) KX G (by k_is) (by k_is) (by k_is) (by k_is) (fun _ _ _ _ _ _ us hl => match us, hl with | [_], _ => rfl)
    have h_gap_row := Pf.def_mk (x := "gap_row") (st := Pf.s_gap_row) (ps := ["n", "kind"]) KX G (by k_is) (by k_is) (by k_is) (by k_is) (fun _ _ _ _ _ _ us hl => match us, hl with | [_, _], _ => rfl)
    have h__law_begun := Pf.def_mk (x := "_law_begun") (st := Pf.s__law_begun) (ps := ["script"]) KX G (by k_is) (by k_is) (by k_is) (by k_is) (fun _ _ _ _ _ _ us hl => match us, hl with | [_], _ => rfl)
    have h__law_blended := Pf.def_mk (x := "_law_blended") (st := Pf.s__law_blended) (ps := ["state"]) KX G (by k_is) (by k_is) (by k_is) (by k_is) (fun _ _ _ _ _ _ us hl => match us, hl with | [_], _ => rfl)
    have h__law_draw := Pf.def_mk (x := "_law_draw") (st := Pf.s__law_draw) (ps := ["state", "room"]) KX G (by k_is) (by k_is) (by k_is) (by k_is) (fun _ _ _ _ _ _ us hl => match us, hl with | [_, _], _ => rfl)
    have h__law_pick := Pf.def_mk (x := "_law_pick") (st := Pf.s__law_pick) (ps := ["state", "some"]) KX G (by k_is) (by k_is) (by k_is) (by k_is) (fun _ _ _ _ _ _ us hl => match us, hl with | [_, _], _ => rfl)
    have h__law_is_truth := Pf.def_mk (x := "_law_is_truth") (st := Pf.s__law_is_truth) (ps := ["found", "due"]) KX G (by k_is) (by k_is) (by k_is) (by k_is) (fun _ _ _ _ _ _ us hl => match us, hl with | [_, _], _ => rfl)
    have h__law_same := Pf.def_mk (x := "_law_same") (st := Pf.s__law_same) (ps := ["found", "due"]) KX G (by k_is) (by k_is) (by k_is) (by k_is) (fun _ _ _ _ _ _ us hl => match us, hl with | [_, _], _ => rfl)
    have h__law_odd := Pf.def_mk (x := "_law_odd") (st := Pf.s__law_odd) (ps := ["draws"]) KX G (by k_is) (by k_is) (by k_is) (by k_is) (fun _ _ _ _ _ _ us hl => match us, hl with | [_], _ => rfl)
    have h__law_is_number := Pf.def_mk (x := "_law_is_number") (st := Pf.s__law_is_number) (ps := ["value", "low", "high"]) KX G (by k_is) (by k_is) (by k_is) (by k_is) (fun _ _ _ _ _ _ us hl => match us, hl with | [_, _, _], _ => rfl)
    have h__law_bent_list := Pf.def_mk (x := "_law_bent_list") (st := Pf.s__law_bent_list) (ps := ["draws", "value", "odd"]) KX G (by k_is) (by k_is) (by k_is) (by k_is) (fun _ _ _ _ _ _ us hl => match us, hl with | [_, _, _], _ => rfl)
    have h__law_is_gap := Pf.def_mk (x := "_law_is_gap") (st := Pf.s__law_is_gap) (ps := ["n", "kind", "value"]) KX G (by k_is) (by k_is) (by k_is) (by k_is) (fun _ _ _ _ _ _ us hl => match us, hl with | [_, _, _], _ => rfl)
    have h__law_all_rows := Pf.def_mk (x := "_law_all_rows") (st := Pf.s__law_all_rows) (ps := ["n", "kind"]) KX G (by k_is) (by k_is) (by k_is) (by k_is) (fun _ _ _ _ _ _ us hl => match us, hl with | [_, _], _ => rfl)
    have h__law_listed := Pf.def_mk (x := "_law_listed") (st := Pf.s__law_listed) (ps := ["n", "kind"]) KX G (by k_is) (by k_is) (by k_is) (by k_is) (fun _ _ _ _ _ _ us hl => match us, hl with | [_, _], _ => rfl)
    have h__law_told := Pf.def_mk (x := "_law_told") (st := Pf.s__law_told) (ps := ["draws", "n", "kind"]) KX G (by k_is) (by k_is) (by k_is) (by k_is) (fun _ _ _ _ _ _ us hl => match us, hl with | [_, _, _], _ => rfl)
    have h__law_kind := Pf.def_mk (x := "_law_kind") (st := Pf.s__law_kind) (ps := ["ask"]) KX G (by k_is) (by k_is) (by k_is) (by k_is) (fun _ _ _ _ _ _ us hl => match us, hl with | [_], _ => rfl)
    have h__law_refused := Pf.def_mk (x := "_law_refused") (st := Pf.s__law_refused) (ps := ["draws"]) KX G (by k_is) (by k_is) (by k_is) (by k_is) (fun _ _ _ _ _ _ us hl => match us, hl with | [_], _ => rfl)
    have h_law := Pf.def_mk (x := "law") (st := Pf.s_law) (ps := ["script"]) KX G (by k_is) (by k_is) (by k_is) (by k_is) (fun _ _ _ _ _ _ us hl => match us, hl with | [_], _ => rfl)
    have h__law_caught := Pf.def_mk (x := "_law_caught") (st := Pf.s__law_caught) (ps := ["action"]) KX G (by k_is) (by k_is) (by k_is) (by k_is) (fun _ _ _ _ _ _ us hl => match us, hl with | [_], _ => rfl)
    have z_abs : mg "abs" = none := PySem.W.mg_none_of KX G (by k_is)
    have z_all : mg "all" = none := PySem.W.mg_none_of KX G (by k_is)
    have z_bool : mg "bool" = none := PySem.W.mg_none_of KX G (by k_is)
    have z_dict : mg "dict" = none := PySem.W.mg_none_of KX G (by k_is)
    have z_enumerate : mg "enumerate" = none := PySem.W.mg_none_of KX G (by k_is)
    have z_int : mg "int" = none := PySem.W.mg_none_of KX G (by k_is)
    have z_isinstance : mg "isinstance" = none := PySem.W.mg_none_of KX G (by k_is)
    have z_len : mg "len" = none := PySem.W.mg_none_of KX G (by k_is)
    have z_list : mg "list" = none := PySem.W.mg_none_of KX G (by k_is)
    have z_min : mg "min" = none := PySem.W.mg_none_of KX G (by k_is)
    have z_range : mg "range" = none := PySem.W.mg_none_of KX G (by k_is)
    have z_reversed : mg "reversed" = none := PySem.W.mg_none_of KX G (by k_is)
    have z_set : mg "set" = none := PySem.W.mg_none_of KX G (by k_is)
    have z_sorted : mg "sorted" = none := PySem.W.mg_none_of KX G (by k_is)
    have z_str : mg "str" = none := PySem.W.mg_none_of KX G (by k_is)
    have z_tuple : mg "tuple" = none := PySem.W.mg_none_of KX G (by k_is)
    have z_zip : mg "zip" = none := PySem.W.mg_none_of KX G (by k_is)
    have k_MOST_GAPS : ∃ t, mg "MOST_GAPS" = some (.int 40 t) := ⟨_, PySem.W.mg_of KX G (by k_is)⟩
    have k_MOST_GAP_ROWS : ∃ t, mg "MOST_GAP_ROWS" = some (.int 200 t) := ⟨_, PySem.W.mg_of KX G (by k_is)⟩
    have k_MOST_LISTED : ∃ t, mg "MOST_LISTED" = some (.int 8 t) := ⟨_, PySem.W.mg_of KX G (by k_is)⟩
    have x_BadGapKind := Pf.isExc0_mk (c := "BadGapKind") KX G (by k_is) PySem.F.excBase_ValueError (by kernel_rfl) (by k_is) (by k_is) (by k_is)
    have x_BadNumber := Pf.isExc1_mk (prog := PySem.Challenge.rw_pairsonce_k67_whole_gap_rows_of_every_si.prog) (c := "BadNumber") (f := "word") KX G (by k_is) (by k_is) (by k_is) (by k_is) (by k_is) (by k_is) (by rfl) (by decide +kernel) (by k_is) (by k_is) (by k_is) (by k_is) (by k_is) (by k_is) (by k_is) (by decide +kernel) (by k_is) (by kernel_rfl) (by k_is) (by k_is) (by k_is) (by decide +kernel) (by rfl) ⟨_, by rfl, by rfl⟩ (fun _ _ => rfl)
      (by rfl) (by rfl) (by rfl) (by rfl) (by rfl) (by rfl) (by rfl) (by decide +kernel) (by decide) (by decide) (fun _ => ⟨_, rfl⟩)
    have x_TooMany := Pf.isExc1_mk (prog := PySem.Challenge.rw_pairsonce_k67_whole_gap_rows_of_every_si.prog) (c := "TooMany") (f := "most") KX G (by k_is) (by k_is) (by k_is) (by k_is) (by k_is) (by k_is) (by rfl) (by decide +kernel) (by k_is) (by k_is) (by k_is) (by k_is) (by k_is) (by k_is) (by k_is) (by decide +kernel) (by k_is) (by kernel_rfl) (by k_is) (by k_is) (by k_is) (by decide +kernel) (by rfl) ⟨_, by rfl, by rfl⟩ (fun _ _ => rfl)
      (by rfl) (by rfl) (by rfl) (by rfl) (by rfl) (by rfl) (by rfl) (by decide +kernel) (by decide) (by decide) (fun _ => ⟨_, rfl⟩)
    have o_BadNumber := Pf.excOf_mk (c := "BadNumber") KX G (by k_is) (by k_is) (by k_is) (by k_is) (by k_is) (by k_is) (by k_is) (by k_is) (by k_is) (by k_is) (by kernel_rfl)
    have o_TooMany := Pf.excOf_mk (c := "TooMany") KX G (by k_is) (by k_is) (by k_is) (by k_is) (by k_is) (by k_is) (by k_is) (by k_is) (by k_is) (by k_is) (by kernel_rfl)
    have o_BadGapKind := Pf.excOf_mk (c := "BadGapKind") KX G (by k_is) (by k_is) (by k_is) (by k_is) (by k_is) (by k_is) (by k_is) (by k_is) (by k_is) (by k_is) (by kernel_rfl)
    have exl := (Pf.ExL.cons o_BadNumber (Pf.ExL.cons o_TooMany (Pf.ExL.cons o_BadGapKind Pf.ExL.nil)))
    have xt := Pf.excT_mk (cs := Pf.XC) exl (by rfl) (by kernel_rfl)
    have pe := PySem.W.mg_of (n := "PairError") KX G (by k_is)
    have hx := fun CP (e : mg "PairError" = some (.ref CP)) (q : _) => Pf.exm_mk (cs := Pf.XC) (CP := CP) exl (by rfl) q
    have t__law_listed := Pf.tab_mk h__law_listed KX hTab (by k_is) (by rfl) (by kernel_rfl) (by decide) (by kernel_rfl)
    have t__law_refused := Pf.tab_mk h__law_refused KX hTab (by k_is) (by rfl) (by kernel_rfl) (by decide) (by kernel_rfl)
    refine Pf.lawAt_mk (Pf.TabL.cons t__law_listed (Pf.TabL.cons t__law_refused Pf.TabL.nil)) (by decide) hmg fun inst => ?_
    have hc := Pf.cau_mk (P := PySem.Challenge.rw_pairsonce_k67_whole_gap_rows_of_every_si.prog) (w := w) h__law_caught pe (hx _ pe (by kernel_rfl))
    have T := Pf.Txt.mk (P := PySem.Challenge.rw_pairsonce_k67_whole_gap_rows_of_every_si.prog) (w := w) z_abs z_all z_bool z_dict z_enumerate z_int z_isinstance z_len z_list z_min z_range z_reversed z_set z_sorted z_str z_tuple z_zip k_MOST_GAPS k_MOST_GAP_ROWS k_MOST_LISTED x_BadGapKind x_BadNumber x_TooMany xt (Pf.nof_mk o_BadNumber (by k_is)) (Pf.nof_mk o_TooMany (by k_is)) hc
    obtain ⟨f, fd, h1, h2, h3⟩ := Pf.asm T h_is_whole h_need_whole h_need_gaps h_is_row_of h_is_gap_row h_blank_row h_filled_first h_rows_found h_gap_rows h_pairs_of_four h_pairs_of_five h_pairs_of_six h_pairs_of_seven h_row_by_places h_great_row h_gap_row h__law_begun h__law_blended h__law_draw h__law_pick h__law_is_truth h__law_same h__law_odd h__law_is_number h__law_bent_list h__law_is_gap h__law_all_rows h__law_listed h__law_told h__law_kind h__law_refused h_law Pf.law_true
    exact ⟨f, fd, h1, h2, fun _ base tf => h3 base ⟨tf _ List.mem_cons_self, tf _ (List.mem_cons_of_mem _ List.mem_cons_self), trivial⟩⟩
end
