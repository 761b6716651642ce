import PyProof.Rows.All
import Wide.All
import OpenK.AllK
import Wide.FinOn
import HandS.ForMost
import HandS.Codes
import HandS.IsInst
import HandS.Exc
import HandS.Style
import HandS.TupAny
import HandS.TupMul
import HandS.NoneIn
import HandS.Conv
import HandS.Zip
import KE.GoesMore
import KE.Datum
import HandS.Walk
import PySem.Challenge.RW_neverregret_k92_whole_long_records_of_jo
set_option Elab.async false
set_option linter.all false
set_option maxRecDepth 100000
namespace KP
open PySem PySem.Spec PyProof.Rows L2
section
variable {X : Cx} {pos : Pos}
theorem pe_never {e : Expr} : PE X e (fun _ _ _ => False) := ⟨fun _ _ _ _ _ _ h => h.elim⟩
/-- o.f as a target -/
def gFld (K : PySem.W.Frag) (to : TE) (f : Str) : TG := fun v σ H Q => to σ H fun x H1 => ∃ a C dx fs, x = .ref a ∧ H1 a = some (.ins C dx fs) ∧ Cls K C ∧ NoAttr K C f ∧ fs.length < 1000 ∧ Q σ (upd H1 a (.ins C dx (putF f v fs)))
theorem pg_fld {o : Expr} {to : TE} {f : Str} (ho : PE X o to) : PG X (.Attribute o f pos) (gFld X.K to f) := by
  refine ⟨fun pins s σ H v u Q I r h => ?_⟩
  rw [PySem.assign_Attribute]
  refine wpAny_bind (wpAny_holding (thn (ho.run pins s σ H _ I h) fun ov s1 ⟨x, H1, I1, r1, a, C, dx, fs, ex, ea, c, n, l, q⟩ => ?_))
  subst ex
  obtain rfl : ov = Value.ref a := r1
  refine wpAny_bind (wpAny_standAt (wpAny_bind (wpAny_holding (setattr_ok I1 ea c n l r fun s3 I3 => ?_))))
  exact wpAny_release ⟨σ, _, I3, q⟩
end
end KP
namespace PySem
open Sem (wp)
open AutoSeq1 (wpAny_loadPart')
theorem meets_enumerate_newT1 (l : Addr) (items : Array Value) (n : Nat) (dct : Option Addr) (sl : Array (Option Value)) :
    Meets (Builtin.«enumerate.__new__» ⟨[.type "enumerate", .ref l], []⟩) (fun _ R s => s.heap.get? l = some { cls := .type "tuple", dict := dct, data := .seq items n, slots := sl } ∧
      R (.ok (.ret (.ref (s.heap.push { cls := .type "tuple_iterator", data := .fields #[.ref l, .int 0 0] }).objs.size)))
        { s with heap := (s.heap.push { cls := .type "tuple_iterator", data := .fields #[.ref l, .int 0 0] }).push { cls := .type "enumerate", data := .fields #[.none, .bool false, .ref s.heap.objs.size, rawInt 0, .none, .none] } }) :=
  .of_wp fun prog w A R s h => by
    obtain ⟨hp, g, d, tk, os⟩ := s; obtain ⟨hl, h⟩ := h
    have hsub := sub_enumerate
    have hL : Heap.IsTuple (Shared.heap ⟨hp, g, d, tk, os⟩) l items := ⟨_, hl, rfl, n, rfl⟩
    wp_walk using wpAny_loadPart' hl
    refine wpAny_stack_any fun st => wpAny_pure ?_
    split
    · rename_i c _ _ _ _ _
      cases (c == Value.type "enumerate")
      · wp_walk using wpAny_loadPart' hl, wpAny_pyIter_tuple hL
        exact ⟨_, rfl, h⟩
      · wp_walk using wpAny_loadPart' hl, wpAny_pyIter_tuple hL
        exact ⟨_, rfl, h⟩
    · wp_walk using wpAny_loadPart' hl, wpAny_pyIter_tuple hL
      exact ⟨_, rfl, h⟩
section
variable {prog : Program} {w : World} {A : Around} {E : Value → Shared → Prop} {s : Shared}
theorem call_enumerate_tuple {l : Addr} {items : Array Value} {Q : Value → Shared → Prop} (hL : s.heap.IsTuple l items)
    (h : ∀ h', IsEnum h' (s.heap.objs.size + 1) s.heap.objs.size 0 .none → h'.IsTupleIter s.heap.objs.size l 0 → h'.objs.size = s.heap.objs.size + 2 →
      (∀ b o, s.heap.get? b = some o → h'.get? b = some o) → Q (.ref (s.heap.objs.size + 1)) { s with heap := h' }) :
    wpAny (model prog w) A (call (.type "enumerate") [.ref l]) Q E s := by
  obtain ⟨⟨c, dct, dt, sl⟩, hl, hc, n, hd⟩ := hL
  replace hc : c = .type "tuple" := hc
  replace hd : dt = .seq items n := hd
  subst hc hd
  refine callType_new F.called_enumerate (by decide) (F.typeCall_enumerate_1 _) (F.newCall_enumerate_1 _) (fun obj => F.args_object_init_2 obj _) F.entry_enumerate_new
    (meets_enumerate_newT1 l items n dct sl) ⟨hl, ?_⟩
  have hz : (s.heap.push { cls := .type "tuple_iterator", data := .fields #[.ref l, .int 0 0] }).objs.size = s.heap.objs.size + 1 := Heap.size_push ..
  show _ ∧ _
  rw [hz]
  have he : IsEnum ((s.heap.push { cls := .type "tuple_iterator", data := .fields #[.ref l, .int 0 0] }).push
      { cls := .type "enumerate", data := .fields #[.none, .bool false, .ref s.heap.objs.size, rawInt 0, .none, .none] }) (s.heap.objs.size + 1) s.heap.objs.size 0 .none := by
    have := Heap.get?_push_size (s.heap.push { cls := .type "tuple_iterator", data := .fields #[.ref l, .int 0 0] })
      (o := { cls := .type "enumerate", data := .fields #[.none, .bool false, .ref s.heap.objs.size, rawInt 0, .none, .none] }) rfl
    rw [hz] at this; exact this
  refine ⟨⟨_, he, rfl⟩, h _ he ⟨_, Heap.get?_push_of_some _ (Heap.get?_push_size _ rfl), rfl, rfl⟩ (by rw [Heap.size_push, hz]) fun b o x => Heap.get?_push_of_some _ (Heap.get?_push_of_some _ x)⟩
end
end PySem
namespace KP
open PySem PySem.Spec PyProof.Rows L2
/-- the tuple at a, the items in new pairs with their places -/
def IteT (K : PySem.W.Frag) (a : Addr) : It :=
  ⟨fun i H => ∃ (xs : List V) (x : V), SqT K H a xs ∧ xs[i]? = some x, fun i H v H' => ∃ T x, v = .ref T ∧ H T = none ∧ H' = upd H T (.tup [.int (i : Nat), x]) ∧ ∀ xs, SqT K H a xs → xs[i]? = some x, fun i H => ∃ xs : List V, SqT K H a xs ∧ xs.length = i⟩
theorem turn_enumT {P : Program} {w : World} {K : PySem.W.Frag} {elts : List Expr} {kk : Nat} {tpos : Pos} (a e it : Addr) :
    Turn P w K (.Tuple elts kk tpos) (IteT K a) [e, it] e (fun i h => (∃ old, IsEnum h e it ((i : Nat) : Int) old) ∧ h.IsTupleIter it a i ∧ e ≠ it ∧ a ≠ it ∧ a ≠ e) where
  mem := by simp
  obj := fun i h st b hb => by
    obtain ⟨⟨old, he⟩, ⟨o, ho, hc, hd⟩, _⟩ := st
    have e' : b = e ∨ b = it := by simpa using hb
    rcases e' with z | z
    · rw [z]; exact ⟨_, he, fun v q => nomatch q⟩
    · rw [z]; exact ⟨o, ho, fun v q => by rw [hd] at q; cases q⟩
  keep := fun i h h' st k => let ⟨⟨old, he⟩, hi, hne⟩ := st; ⟨⟨old, k e (by simp) _ he⟩, hi.at fun o q => k it (by simp) o q, hne⟩
  item := by
    intro X hP hw hK hc i pins s σ H E I hf st hg
    subst hP hw hK
    obtain ⟨⟨old, he⟩, hit, hne, hai, hae⟩ := st
    obtain ⟨xs, x, hq, hx⟩ := hg
    obtain ⟨its, rv, p, hz⟩ := I.tuple hq
    obtain ⟨u, hu, ru⟩ := rv.get hx
    have hel : e < s.heap.objs.size := Heap.lt_size he
    have hil : it < s.heap.objs.size := by obtain ⟨_, q, _⟩ := hit; exact Heap.lt_size q
    have hlt : i < its.toArray.size := by
      have := (List.getElem?_eq_some_iff.mp hu).1
      simpa using this
    have hh : X.A.in1.handled = none := I.ok.hd hc
    refine wpAny_pyNext_enum_itemD (Draws.tuple hh it a hai its.toArray) he ⟨hit, p⟩ hlt hne (by simp [hne, Ne.symm hae]) fun y h' tk hy ho hst hT hsz hk => ?_
    have ey : y = u := by
      have : its.toArray[i]? = some u := by simpa using hu
      rw [this] at hy
      exact (Option.some.inj hy).symm
    subst ey
    refine ⟨_, rfl, wpAny_letOwnedTupleGo_enum (s := { s with heap := h', toks := tk + 1 }) ho fun h'' he' sb => ?_⟩
    have hT2 : h''.get? s.heap.objs.size = some { cls := .type "tuple", data := .seq #[.int i tk, y] } := (sb.2 _ (Nat.ne_of_gt hel)).trans hT
    have new : ObjOk X.prog X.w (upd H s.heap.objs.size (.tup [.int (i : Nat), x])) h'' s.heap.objs.size (.tup [.int (i : Nat), x]) :=
      ⟨by show 2 ≤ sizeLine; decide, [.int i tk, y], .cons ⟨_, rfl⟩ (.cons ru .nil), ⟨_, hT2, rfl, _, rfl⟩⟩
    have I1 : Inv X pins σ (upd H s.heap.objs.size (.tup [.int (i : Nat), x])) { s with heap := h'', toks := tk + 1 } :=
      I.turnedNew (ch := [e, it]) (fun b ob hb q => (sb.2 b (fun z => hb (by simp [z]))).trans (hk b ob (fun z => hb (by simp [z])) (fun z => hb (by simp [z])) q)) hf (Nat.le_refl _) new
    refine ⟨.ref s.heap.objs.size, _, I1, rfl, ⟨_, x, rfl, I.hok.fresh (Nat.le_refl _), rfl, fun ys hy => by rw [I.tuple_inj hy hq]; exact hx⟩, ⟨⟨y, ?_⟩, hst.1.at fun o q => (sb.2 it (Ne.symm hne)).trans q, hne, hai, hae⟩, fun b hb => ?_⟩
    · have e1 : ((i + 1 : Nat) : Int) = (i : Int) + 1 := by omega
      rw [e1]; exact he'
    · have hb' : b < s.heap.objs.size := by
        have e' : b = e ∨ b = it := by simpa using hb
        rcases e' with z | z
        · rw [z]; exact hel
        · rw [z]; exact hil
      rw [upd_ne (Nat.ne_of_lt hb')]
      exact (hf b hb).1
  done := by
    intro X hP hw hK hc i pins s σ H E I hf st hg
    subst hP hw hK
    obtain ⟨⟨old, he⟩, hit, hne, hai, hae⟩ := st
    obtain ⟨xs, hq, hx⟩ := hg
    obtain ⟨its, rv, p, hz⟩ := I.tuple hq
    obtain ⟨f0, f1, f2, f3, f4, f5⟩ := hf it (by simp)
    have hl := rv.length
    have hh : X.A.in1.handled = none := I.ok.hd hc
    have hn : i = its.toArray.size := by simp; omega
    subst hn
    exact wpAny_pyNext_enum_endD (Draws.tuple hh it a hai its.toArray) he ⟨hit, p⟩ fun h' eb => ⟨rfl, I.turned (t' := s.toks) (fun b o hb q => eb b o hb q) f0 f1 f3 f4 f5⟩
  self := fun A i s Q E st h => let ⟨⟨_, he⟩, _⟩ := st; wpAny_pyIter_enum he h
def iEnumT (K : PySem.W.Frag) (ta : TA) : TI := fun σ H R => ta σ H fun vs H1 => ∃ a xs, vs = [.ref a] ∧ SqT K H1 a xs ∧ R (IteT K a) H1
theorem pi_enumT {X : Cx} {e : Expr} {ta : TA} {p pos tpos : Pos} {elts : List Expr} {kk : Nat} (hg : Gl X "enumerate") (hm : X.mg "enumerate" = none) (ha : PA X [e] ta) (hs : starEach [e] X.env = [(false, eval e X.env)] := by rfl) :
    PI X (.Tuple elts kk tpos) (.Call (.Name "enumerate" p) [e] [] pos) (iEnumT X.K ta) := by
  refine ⟨fun pins s σ H R I h => ?_⟩
  refine Call_ (ld_blt I hg hm boot_enumerate (PyProof.Rows.callWith_type1 (thn (ha.run pos pins s σ H _ I h) fun us s1 ⟨vs, H1, I1, r1, q1⟩ => ?_) hs rfl))
  obtain ⟨a, xs, ex, hq, q⟩ := q1
  subst ex
  cases r1 with
  | cons r rr =>
    cases rr
    cases r
    obtain ⟨its, rv, p', hz⟩ := I1.tuple hq
    refine call_enumerate_tuple p' fun h' he hit hsz hk => wpAny_pyIter_enum he ?_
    have I2 : Inv X pins σ H1 { s1 with heap := h' } := I1.kept (t' := s1.toks) hk
    have hal : a < s1.heap.objs.size := by obtain ⟨_, q, _⟩ := p'; exact Heap.lt_size q
    refine ⟨s1.heap.objs.size + 1, [s1.heap.objs.size + 1, s1.heap.objs.size], _, _, H1, rfl, I2, turn_enumT a (s1.heap.objs.size + 1) s1.heap.objs.size, ⟨⟨.none, he⟩, hit, Nat.succ_ne_self _, Nat.ne_of_lt hal, Nat.ne_of_lt (Nat.lt_succ_of_lt hal)⟩, fun b hb => ?_, q⟩
    have e' : b = s1.heap.objs.size + 1 ∨ b = s1.heap.objs.size := by simpa using hb
    have hle : s1.heap.objs.size ≤ b := by
      rcases e' with z | z
      · rw [z]; exact Nat.le_add_right _ _
      · rw [z]; exact Nat.le_refl _
    exact I1.fpOk hle (I1.hok.fresh hle)
/-- a for over it that leaves the tuple as it is -/
theorem for_enumT {K : PySem.W.Frag} {a : Addr} {xs : List V} {g : TG} {tb : TS} {D : Ends} {σ : L2.St} {H : Hp} (Pv : Nat → L2.St → Hp → Prop) (h0 : Pv 0 σ H) (hl : ∀ i σ H, i ≤ xs.length → Pv i σ H → SqT K H a xs)
    (hs : ∀ i x σ H T, xs[i]? = some x → Pv i σ H → H T = none → g (.ref T) σ (upd H T (.tup [.int (i : Nat), x])) fun σ2 H2 => tb { D with nx := Pv (i + 1), ct := Pv (i + 1), bk := D.nx } σ2 H2) (hd : ∀ σ H, Pv xs.length σ H → D.nx σ H) :
    ∃ W : Nat → Nat → L2.St → Hp → Prop, (∃ m, W 0 m σ H) ∧ ∀ i m σ H, W i m σ H →
      ((IteT K a).stop i H ∧ D.nx σ H) ∨ ((IteT K a).go i H ∧ ∃ N : L2.St → Hp → Prop, (∀ σ' H', N σ' H' → ∃ m', m' < m ∧ W (i + 1) m' σ' H') ∧ ∀ x H', (IteT K a).yld i H x H' → g x σ H' fun σ2 H2 => tb { D with nx := N, ct := N, bk := D.nx } σ2 H2) := by
  refine ⟨fun i m σ H => m = xs.length - i ∧ i ≤ xs.length ∧ Pv i σ H, ⟨xs.length, by simp, Nat.zero_le _, h0⟩, ?_⟩
  rintro i m σ H ⟨rfl, hi, p⟩
  have q := hl i σ H hi p
  by_cases hlt : i < xs.length
  · refine .inr ⟨⟨xs, xs[i], q, by simp [hlt]⟩, Pv (i + 1), fun σ' H' p' => ⟨xs.length - (i + 1), by omega, rfl, hlt, p'⟩, fun x H' y => ?_⟩
    obtain ⟨T, z, e, hT, e2, y⟩ := y
    subst e e2
    exact hs i z σ H T (y xs q) p hT
  · have e : i = xs.length := by omega
    subst e
    exact .inl ⟨⟨xs, q, rfl⟩, hd σ H p⟩
/-- tuple * int, long -/
def rRepW (K : PySem.W.Frag) : R2 := fun x y H Q => ∃ l k xs, x = .ref l ∧ y = .int k ∧ SqT K H l xs ∧ xs ≠ [] ∧ 2 ≤ k ∧ k ≤ 100000 ∧ xs.length ≤ 10 ∧ ∀ p, H p = none → Q (.ref p) (upd H p (.tup (List.replicate k.toNat xs).flatten))
set_option maxHeartbeats 4000000 in
theorem op_repW {X : Cx} : OpR X (binaryOp .Mult) (rRepW X.K) := by
  intro pins s σ H x y v u Q I rx ry h
  obtain ⟨l, k, xs, rfl, rfl, hT, hne, h1, h2, hz, q⟩ := h
  cases rx
  obtain ⟨t, rfl⟩ := ry
  obtain ⟨its, r, ⟨⟨cls, dd, data, sl⟩, ho, hc, n, hd⟩, hs⟩ := I.tuple hT
  simp only at hc hd
  subst hc hd
  have hle : its.length = xs.length := r.length.symm
  have hn : its ≠ [] := fun e => hne (by
    rw [e] at hle
    exact List.eq_nil_of_length_eq_zero hle.symm)
  have hi : its.toArray.isEmpty = false := by
    cases its with
    | nil => exact absurd rfl hn
    | cons a b => rfl
  have hsz0 : its.toArray.size = xs.length := by rw [List.size_toArray, hle]
  have hm : ((its.toArray.size : Nat) : Int) * k ≤ 1000000 := by
    rw [hsz0]
    have a1 : ((xs.length : Nat) : Int) * k ≤ 10 * k := Int.mul_le_mul_of_nonneg_right (by omega) (by omega)
    omega
  have flen : (List.replicate k.toNat its).flatten.length ≤ sizeLine := by
    rw [PyProof.Rows.lm_len_rep_flat, hle, sizeLine_eq]
    have a1 : k.toNat * xs.length ≤ 100000 * 10 := Nat.mul_le_mul (by omega) hz
    omega
  have c0 : (decide (k < -(2 ^ 63)) || decide (k ≥ 2 ^ 63)) = false := by
    rw [decide_eq_false (by omega), decide_eq_false (by omega)] <;> rfl
  have c1 : (its.toArray.isEmpty || k == 1) = false := by
    rw [hi, Bool.false_or]
    exact beq_eq_false_iff_ne.mpr (by omega)
  have c2 : (decide (k ≤ 0) || its.toArray.isEmpty) = false := by
    rw [hi, Bool.or_false]
    exact decide_eq_false (by omega)
  have c4 : Builtin.Tuple.tupleTooMany (((its.toArray.size : Nat) : Int) * k) = false := by
    unfold Builtin.Tuple.tupleTooMany
    rw [sizeLine_eq]
    exact decide_eq_false (by omega)
  refine wpAny_binaryOp_repeat_ref (T := "tuple") (U := "int") (by decide) ⟨_, ho, rfl⟩ (fun s' => typeIs_int s' k t) noFill_tuple_mul F.fills_int_mul F.slot_int_rmul repeat_tuple F.slot_int_index.lookup
    (call_meets F.slot_int_rmul (typeIs_int s k t) F.entry_int_rmul (F.args_int_rmul_2 _ _) (int_rmul_tuple k t l its.toArray n dd sl)
      ⟨ho, rfl, ⟨_, ho, rfl⟩, call_meets F.slot_tuple_mul ⟨_, ho, rfl⟩ F.entry_tuple_mul (F.args_tuple_mul_2 _ _) (tuple_mulW l its.toArray n dd sl k t c0 c1 c2 (by omega) c4 (by rw [size_rep, List.size_toArray]; exact flen)) ⟨ho, ?_⟩⟩)
  rw [size_rep]
  refine ⟨.ref s.heap.objs.size, _, I.laid (t' := s.toks) (o := .tup (List.replicate k.toNat xs).flatten) (fun b ob q => Heap.get?_push_of_some _ q) (Nat.le_refl _) ?_, rfl, q _ (I.hok.fresh (Nat.le_refl _))⟩
  exact ⟨by rw [PyProof.Rows.lm_len_rep_flat, sizeLine_eq]; have a1 : k.toNat * xs.length ≤ 100000 * 10 := Nat.mul_le_mul (by omega) hz; omega, _, r.rep k.toNat, IsTup.new _ _⟩
end KP
namespace KP
open PySem PySem.Spec PyProof.Rows L2
abbrev S2 := L2.St
section
variable {K : PySem.W.Frag} {σ : S2} {H : Hp} {Q : VK} {v x y : V} {ta tb te tv to ti : TE} {t u : TA} {i j : Nat} {a p l C dx : Addr} {fs : List (Str × V)} {f m : Str} {xs vs : List V} {nx : S2 → Hp → Prop} {rt : VK} {bk ct : S2 → Hp → Prop}
theorem w_var (h : σ[i]? = some (some v)) (q : Q v H) : tVar i σ H Q := ⟨v, h, q⟩
theorem w_c (q : Q v H) : tC v σ H Q := q
theorem w_op {r : R2} (q : ta σ H fun x H1 => tb σ H1 fun y H2 => r x y H2 Q) : tOp r ta tb σ H Q := q
theorem w_un {r : V → Hp → VK → Prop} (q : ta σ H fun x H1 => r x H1 Q) : tUn r ta σ H Q := q
def seqV (mk : List V → HO) (xs : List V) (H : Hp) (Q : VK) : Prop := xs.length ≤ sizeLine ∧ ∀ p, H p = none → Q (.ref p) (upd H p (mk xs))
theorem w_tup (q : t σ H fun xs H1 => seqV .tup xs H1 Q) : tTup t σ H Q := q
theorem w_lst (q : t σ H fun xs H1 => seqV .lst xs H1 Q) : tLst t σ H Q := q
theorem w_seqV {mk : List V → HO} (h : xs.length ≤ sizeLine) (q : ∀ p, H p = none → Q (.ref p) (upd H p (mk xs))) : seqV mk xs H Q := ⟨h, q⟩
def fldV (K : PySem.W.Frag) (f : Str) (x : V) (H : Hp) (Q : VK) : Prop := ∃ a C dx fs v, x = .ref a ∧ H a = some (.ins C dx fs) ∧ Cls K C ∧ NoAttr K C f ∧ fs.lookup f = some v ∧ Q v H
theorem w_fld (q : ta σ H fun x H1 => fldV K f x H1 Q) : tFld K ta f σ H Q := q
theorem w_fldV (h : H a = some (.ins C dx fs)) (c : Cls K C) (n : NoAttr K C f) (e : fs.lookup f = some v) (q : Q v H) : fldV K f (.ref a) H Q := ⟨a, C, dx, fs, v, rfl, h, c, n, e, q⟩
def fldS (K : PySem.W.Frag) (f : Str) (y x : V) (H : Hp) (q : Hp → Prop) : Prop := ∃ a C dx fs, x = .ref a ∧ H a = some (.ins C dx fs) ∧ Cls K C ∧ NoAttr K C f ∧ fs.length < 1000 ∧ q (upd H a (.ins C dx (putF f y fs)))
theorem w_fldS {q : Hp → Prop} (h : H a = some (.ins C dx fs)) (c : Cls K C) (n : NoAttr K C f) (e : fs.length < 1000) (k : q (upd H a (.ins C dx (putF f y fs)))) : fldS K f y (.ref a) H q := ⟨a, C, dx, fs, rfl, h, c, n, e, k⟩
theorem w_sfld (q : tv σ H fun y H1 => ta σ H1 fun x H2 => fldS K f y x H2 fun H3 => nx σ H3) : sFld K ta tv f ⟨nx, rt, bk, ct⟩ σ H := q
theorem w_call {sp : Sp} {E : XK} (q : t σ H fun vs H1 => sp vs H1 Q E) : tCall sp [] E t σ H Q := by
  have e : (fun vs H1 => sp vs H1 Q E) = fun vs H1 => sp (vs ++ []) H1 Q E := by funext vs H1; rw [List.append_nil]
  rw [e] at q
  exact q
def methV (m : Str) (C : Addr) (x : V) (H : Hp) (k : Prop) : Prop := ∃ a dx fs, x = .ref a ∧ H a = some (.ins C dx fs) ∧ fs.lookup m = none ∧ k
theorem w_meth {sp : Sp} {E : XK} (q : ta σ H fun x H1 => methV m C x H1 (t σ H1 fun vs H2 => sp (x :: vs) H2 Q E)) : tMeth C m sp [] E ta t σ H Q := by
  have e : (fun x H1 => methV m C x H1 (t σ H1 fun vs H2 => sp (x :: vs) H2 Q E)) = fun x H1 => ∃ a dx fs, x = .ref a ∧ H1 a = some (.ins C dx fs) ∧ fs.lookup m = none ∧ t σ H1 fun vs H2 => sp (x :: (vs ++ [])) H2 Q E := by
    funext x H1
    unfold methV
    simp only [List.append_nil]
  rw [e] at q
  exact q
theorem w_methV {k : Prop} (h : H a = some (.ins C dx fs)) (e : fs.lookup m = none) (q : k) : methV m C (.ref a) H k := ⟨a, dx, fs, rfl, h, e, q⟩
theorem w_make {sp : Sp} {E : XK} (q : t σ H fun vs H1 => ∀ x dx, H1 x = none → H1 dx = none → dx ≠ x → sp (.ref x :: vs) (upd (upd H1 dx (.own x)) x (.ins C dx [])) (fun v H2 => v = .non ∧ Q (.ref x) H2) E) : tMake C sp [] E t σ H Q := by
  have e : (fun (vs : List V) (H1 : Hp) => ∀ x dx, H1 x = none → H1 dx = none → dx ≠ x → sp (.ref x :: vs) (upd (upd H1 dx (.own x)) x (.ins C dx [])) (fun v H2 => v = .non ∧ Q (.ref x) H2) E) = fun vs H1 => ∀ x dx, H1 x = none → H1 dx = none → dx ≠ x → sp (.ref x :: (vs ++ [])) (upd (upd H1 dx (.own x)) x (.ins C dx [])) (fun v H2 => v = .non ∧ Q (.ref x) H2) E := by
    funext vs H1
    simp only [List.append_nil]
  rw [e] at q
  exact q
theorem w_cb {r : List V → Hp → VK → Prop} (q : t σ H fun vs H1 => r vs H1 Q) : tCB r t σ H Q := q
theorem w_nil {Q : List V → Hp → Prop} (q : Q [] H) : tNil σ H Q := q
theorem w_cons {Q : List V → Hp → Prop} (q : ta σ H fun x H1 => t σ H1 fun xs H2 => Q (x :: xs) H2) : tCons ta t σ H Q := q
def blV (x : V) (H : Hp) (Q : Bool → Hp → Prop) : Prop := ∃ c, x = .bl c ∧ Q c H
theorem w_blV {c : Bool} {Q : Bool → Hp → Prop} (q : Q c H) : blV (.bl c) H Q := ⟨c, rfl, q⟩
theorem w_tB {Q : Bool → Hp → Prop} (q : te σ H fun x H1 => blV x H1 Q) : tB te σ H Q := q
theorem w_tTest {Q : Bool → Hp → Prop} (q : te σ H fun x H1 => blV x H1 Q) : tTest te σ H Q := q
theorem w_tAnd {t u : TT} {Q : Bool → Hp → Prop} (q : t σ H fun c H1 => if c = true then u σ H1 Q else Q false H1) : tAnd t u σ H Q := q
theorem w_tOr {t u : TT} {Q : Bool → Hp → Prop} (q : t σ H fun c H1 => if c = true then Q true H1 else u σ H1 Q) : tOr t u σ H Q := q
theorem w_tNot {t : TT} {Q : Bool → Hp → Prop} (q : t σ H fun c H1 => Q (!c) H1) : tNot t σ H Q := q
theorem w_tAndV (q : ta σ H fun x H1 => blV x H1 fun c H2 => if c = true then tb σ H2 Q else Q (.bl false) H2) : tAndV ta tb σ H Q := q
theorem w_tOrV (q : ta σ H fun x H1 => blV x H1 fun c H2 => if c = true then Q (.bl true) H2 else tb σ H2 Q) : tOrV ta tb σ H Q := q
theorem w_tNotV (q : ta σ H fun x H1 => blV x H1 fun c H2 => Q (.bl (!c)) H2) : tNotV ta σ H Q := q
theorem w_tIf {t : TT} (q : t σ H fun c H1 => if c = true then ta σ H1 Q else tb σ H1 Q) : tIf t ta tb σ H Q := q
def chV (x y : V) (r r' : R2) (tc : TE) (σ : S2) (H : Hp) (Q : VK) : Prop := r x y H fun z H3 => blV z H3 fun k H4 => if k = true then tc σ H4 fun w' H5 => r' y w' H5 Q else Q (.bl false) H4
theorem w_tChain {r r' : R2} {tc : TE} (q : ta σ H fun x H1 => tb σ H1 fun y H2 => r x y H2 fun z H3 => blV z H3 fun k H4 => if k = true then tc σ H4 fun w' H5 => r' y w' H5 Q else Q (.bl false) H4) : tChain r r' ta tb tc σ H Q := q
theorem w_isN (q : ta σ H fun x H1 => Q (.bl (decide (x = .non))) H1) : tIsN ta σ H Q := q
theorem w_notN (q : ta σ H fun x H1 => Q (.bl (!decide (x = .non))) H1) : tNotN ta σ H Q := q
theorem w_noPart {Q : Option Int → Hp → Prop} (q : Q none H) : tNoPart σ H Q := q
def parV (x : V) (H : Hp) (Q : Option Int → Hp → Prop) : Prop := ∃ i, x = .int i ∧ Q (some i) H
theorem w_part {Q : Option Int → Hp → Prop} (q : te σ H fun x H1 => parV x H1 Q) : tPart te σ H Q := q
theorem w_parV {n : Int} {Q : Option Int → Hp → Prop} (q : Q (some n) H) : parV (.int n) H Q := ⟨n, rfl, q⟩
theorem w_sl {r : V → Option Int → Option Int → Hp → VK → Prop} {tl th : TO} (q : te σ H fun x H1 => tl σ H1 fun l H2 => th σ H2 fun u H3 => r x l u H3 Q) : tSl r te tl th σ H Q := q
def bmV (K : PySem.W.Frag) (T : String) (x : V) (H : Hp) (k : Prop) : Prop := tyV K T x H ∧ k
theorem w_bm0 {T : String} {r : V → List V → Hp → VK → Prop} (q : to σ H fun x H1 => bmV K T x H1 (r x [] H1 Q)) : tBM0 K T r to σ H Q := q
theorem w_bm {T : String} {r : V → List V → Hp → VK → Prop} (q : to σ H fun x H1 => bmV K T x H1 (t σ H1 fun xs H2 => r x xs H2 Q)) : tBM K T r to t σ H Q := q
theorem w_bmL {k : Prop} (h : H l = some (.lst xs)) (q : k) : bmV K "list" (.ref l) H k := ⟨.inl ⟨rfl, _, SqL.of h⟩, q⟩
def revV (K : PySem.W.Frag) (x : V) (H : Hp) (Q : VK) : Prop := ∃ a xs, x = .ref a ∧ SqL K H a xs ∧ ∀ p, H p = none → Q (.ref p) (upd H p (.lst xs.reverse))
theorem w_rev (q : te σ H fun x H1 => revV K x H1 Q) : tRevL K te σ H Q := q
theorem w_revV (h : SqL K H a xs) (q : ∀ p, H p = none → Q (.ref p) (upd H p (.lst xs.reverse))) : revV K (.ref a) H Q := ⟨a, xs, rfl, h, q⟩
/-! values -/
theorem w_rI0 {g : Int → Int → V} {i j : Int} (q : Q (g i j) H) : rI0 g (.int i) (.int j) H Q := ⟨i, j, rfl, rfl, q⟩
theorem w_rI {c : Int → Int → Prop} {g : Int → Int → V} {i j : Int} (h : c i j) (q : Q (g i j) H) : rI c g (.int i) (.int j) H Q := ⟨i, j, rfl, rfl, h, q⟩
theorem w_rU {g : Int → V} {i : Int} (q : Q (g i) H) : rU g (.int i) H Q := ⟨i, rfl, q⟩
theorem w_rEqI {i j : Int} (q : Q (.bl (decide (i = j))) H) : rEq (.int i) (.int j) H Q := ⟨rfl, by
  have e : decide (V.int i = V.int j) = decide (i = j) := by simp
  rw [e]; exact q⟩
theorem w_rNeI {i j : Int} (q : Q (.bl (!decide (i = j))) H) : rNe (.int i) (.int j) H Q := ⟨rfl, by
  have e : decide (V.int i = V.int j) = decide (i = j) := by simp
  rw [e]; exact q⟩
theorem w_rEq (h : scal x y = true) (q : Q (.bl (decide (x = y))) H) : rEq x y H Q := ⟨h, q⟩
theorem w_rNe (h : scal x y = true) (q : Q (.bl (!decide (x = y))) H) : rNe x y H Q := ⟨h, q⟩
theorem w_ixL {n : Int} (h : SqL K H p xs) (e : atI xs n = some v) (q : Q v H) : rIxL K (.ref p) (.int n) H Q := ⟨p, xs, n, v, rfl, rfl, h, e, q⟩
theorem w_ixT {n : Int} (h : SqT K H p xs) (e : atI xs n = some v) (q : Q v H) : rIxT K (.ref p) (.int n) H Q := ⟨p, xs, n, v, rfl, rfl, h, e, q⟩
theorem w_slL {lo hi : Option Int} (h : SqL K H a xs) (q : ∀ p, H p = none → Q (.ref p) (upd H p (.lst (cutV xs lo hi)))) : rSlL K (.ref a) lo hi H Q := ⟨a, xs, rfl, h, q⟩
theorem w_append (h : H l = some (.lst xs)) (e : xs.length < sizeLine) (q : Q .non (upd H l (.lst (xs ++ [y])))) : rAppend (.ref l) [y] H Q := ⟨l, xs, y, rfl, rfl, h, e, q⟩
theorem w_pop (h : H l = some (.lst xs)) (e : xs[xs.length - 1]? = some y) (q : Q y (upd H l (.lst xs.dropLast))) : rPop (.ref l) [] H Q := ⟨l, xs, y, rfl, rfl, h, e, q⟩
theorem w_setL {k : Int} {q : Hp → Prop} (h : H p = some (.lst xs)) (e : ixN xs.length k = some j) (k' : q (upd H p (.lst (xs.set j v)))) : rSetL (.ref p) (.int k) v H q := ⟨p, xs, k, j, rfl, rfl, h, e, k'⟩
/-! targets, statements -/
theorem w_gName {Q : S2 → Hp → Prop} (q : Q (σ.set i (some v)) H) : gName i v σ H Q := q
theorem w_gTup {t : TGs} {n : Nat} {Q : S2 → Hp → Prop} (h : SqT K H a xs) (e : xs.length = n) (q : t xs σ H Q) : gTup K n t (.ref a) σ H Q := ⟨a, xs, rfl, h, e, q⟩
theorem w_gUnl {t : TGs} {n : Nat} {Q : S2 → Hp → Prop} (h : SqL K H a xs) (e : xs.length = n) (q : t xs σ H Q) : gUnl K n t (.ref a) σ H Q := ⟨a, xs, rfl, h, e, q⟩
theorem w_gCons {t : TG} {u : TGs} {Q : S2 → Hp → Prop} (q : t v σ H fun σ' H' => u vs σ' H' Q) : gCons t u (v :: vs) σ H Q := ⟨v, vs, rfl, q⟩
theorem w_gNil {Q : S2 → Hp → Prop} (q : Q σ H) : gNil [] σ H Q := ⟨rfl, q⟩
theorem w_gFld {Q : S2 → Hp → Prop} (q : to σ H fun x H1 => fldS K f v x H1 fun H2 => Q σ H2) : gFld K to f v σ H Q := q
theorem w_gSub {t : TSet} {Q : S2 → Hp → Prop} (q : to σ H fun o H1 => ti σ H1 fun i H2 => t o i v H2 fun H3 => Q σ H3) : gSub to ti t v σ H Q := q
theorem w_seq {t u : TS} (q : t ⟨u ⟨nx, rt, bk, ct⟩, rt, bk, ct⟩ σ H) : tSeq t u ⟨nx, rt, bk, ct⟩ σ H := q
theorem w_next (q : nx σ H) : tNext ⟨nx, rt, bk, ct⟩ σ H := q
theorem w_break (q : bk σ H) : tBreak ⟨nx, rt, bk, ct⟩ σ H := q
theorem w_cont (q : ct σ H) : tCont ⟨nx, rt, bk, ct⟩ σ H := q
theorem w_asg {g : TG} (q : te σ H fun x H1 => g x σ H1 nx) : tAsg te g ⟨nx, rt, bk, ct⟩ σ H := q
theorem w_drop (q : te σ H fun _ H1 => nx σ H1) : tDrop te ⟨nx, rt, bk, ct⟩ σ H := q
theorem w_ret (q : te σ H rt) : tRet te ⟨nx, rt, bk, ct⟩ σ H := q
theorem w_retN (q : rt .non H) : tRetN ⟨nx, rt, bk, ct⟩ σ H := q
theorem w_ifS {c : TT} {t u : TS} (q : c σ H fun b H1 => if b = true then t ⟨nx, rt, bk, ct⟩ σ H1 else u ⟨nx, rt, bk, ct⟩ σ H1) : tIfS c t u ⟨nx, rt, bk, ct⟩ σ H := q
def par2 (i j : Nat) (vs : List V) (σ : S2) (H : Hp) (q : S2 → Hp → Prop) : Prop := ∃ v w, vs = [v, w] ∧ q ((σ.set i (some v)).set j (some w)) H
theorem w_par (q : t σ H fun vs H1 => par2 i j vs σ H1 nx) : tPar i j t ⟨nx, rt, bk, ct⟩ σ H := q
theorem w_par2 {q : S2 → Hp → Prop} (h : q ((σ.set i (some x)).set j (some y)) H) : par2 i j [x, y] σ H q := ⟨x, y, rfl, h⟩
theorem w_cut {t u : TS} (M : S2 → Hp → Prop) (h : t ⟨M, rt, bk, ct⟩ σ H) (k : ∀ σ' H', M σ' H' → u ⟨nx, rt, bk, ct⟩ σ' H') : C8.tCut t u ⟨nx, rt, bk, ct⟩ σ H := ⟨M, h, k⟩
/-! tests -/
theorem w_itT {A B : Prop} (h : A) : if true = true then A else B := iteT h
theorem w_itF {A B : Prop} (h : B) : if false = true then A else B := iteF h
theorem w_itD {P : Prop} [Decidable P] {A B : Prop} (h1 : P → A) (h2 : ¬ P → B) : if decide P = true then A else B := by
  by_cases h : P
  · rw [if_pos (decide_eq_true h)]; exact h1 h
  · rw [if_neg (by rw [decide_eq_false h]; decide)]; exact h2 h
theorem w_itN {P : Prop} [Decidable P] {A B : Prop} (h1 : ¬ P → A) (h2 : P → B) : if (!decide P) = true then A else B := by
  by_cases h : P
  · rw [if_neg (by rw [decide_eq_true h]; decide)]; exact h2 h
  · rw [if_pos (by rw [decide_eq_false h]; rfl)]; exact h1 h
theorem w_itB {c : Bool} {A B : Prop} (h1 : c = true → A) (h2 : c = false → B) : if c = true then A else B := by
  cases c with
  | true => rw [if_pos rfl]; exact h1 rfl
  | false => rw [if_neg Bool.false_ne_true]; exact h2 rfl
theorem w_nonI {n : Int} {k : V → Hp → Prop} (h : k (.bl false) H) : k (.bl (decide (V.int n = .non))) H := h
theorem w_nonR {k : V → Hp → Prop} (h : k (.bl false) H) : k (.bl (decide (V.ref a = .non))) H := h
theorem w_nonN {k : V → Hp → Prop} (h : k (.bl true) H) : k (.bl (decide (V.non = .non))) H := h
end
end KP
namespace KP
open PySem PySem.Spec PyProof.Rows L2
theorem w_ifRefNon {a : Addr} {A B : Prop} (h : B) : if decide (V.ref a = V.non) = true then A else B := iteF h
theorem w_ifIntNon {a : Int} {A B : Prop} (h : B) : if decide (V.int a = V.non) = true then A else B := iteF h
theorem w_ifNonNon {A B : Prop} (h : A) : if decide (V.non = V.non) = true then A else B := iteT h
theorem w_ifRefNot {a : Addr} {A B : Prop} (h : A) : if (!decide (V.ref a = V.non)) = true then A else B := iteT h
theorem w_ifIntNot {a : Int} {A B : Prop} (h : A) : if (!decide (V.int a = V.non)) = true then A else B := iteT h
theorem w_ifNonNot {A B : Prop} (h : B) : if (!decide (V.non = V.non)) = true then A else B := iteF h
end KP
namespace KP
open PySem PySem.Spec PyProof.Rows L2
/-- all but M stands; tuples and known things stand anyway; nothing goes -/
structure Kp (M : List Addr) (H H' : Hp) : Prop where
  keep : ∀ x o, H x = some o → x ∉ M → H' x = some o
  tup : ∀ x xs, H x = some (.tup xs) → H' x = some (.tup xs)
  frz : ∀ x o u, H x = some (.frz o u) → H' x = some (.frz o u)
  dom : ∀ x o, H x = some o → ∃ o', H' x = some o'
section
variable {K : PySem.W.Frag} {M N : List Addr} {H H1 H2 H' : Hp} {p a b l x : Addr} {o u : HO} {xs ys : List V}
theorem Kp.refl : Kp M H H := ⟨fun _ _ h _ => h, fun _ _ h => h, fun _ _ _ h => h, fun _ _ h => ⟨_, h⟩⟩
theorem Kp.trans (e : Kp M H H1) (f : Kp M H1 H2) : Kp M H H2 := ⟨fun x o h n => f.keep x o (e.keep x o h n) n, fun x xs h => f.tup x xs (e.tup x xs h), fun x o u h => f.frz x o u (e.frz x o u h), fun x o h => by
  obtain ⟨o', h'⟩ := e.dom x o h
  exact f.dom x o' h'⟩
theorem Kp.mono (e : Kp M H H1) (h : ∀ x ∈ M, x ∈ N) : Kp N H H1 := ⟨fun x o hx n => e.keep x o hx fun m => n (h x m), e.tup, e.frz, e.dom⟩
theorem Kp.wide (e : Kp [] H H1) : Kp N H H1 := e.mono fun _ h => by cases h
theorem Kp.new (h : H p = none) : Kp M H (upd H p o) := ⟨fun x u hx _ => by rw [upd_ne (ne_of_none hx h)]; exact hx, fun x xs hx => by rw [upd_ne (ne_of_none hx h)]; exact hx, fun x o u hx => by rw [upd_ne (ne_of_none hx h)]; exact hx, fun x u hx => ⟨u, by rw [upd_ne (ne_of_none hx h)]; exact hx⟩⟩
def isMut : HO → Bool
  | .tup _ => false
  | .frz _ _ => false
  | _ => true
theorem Kp.set (h : H p = some u) (m : isMut u = true) (hp : p ∈ M) : Kp M H (upd H p o) := ⟨fun x w hx n => by
    have ne : x ≠ p := fun e => n (e ▸ hp)
    rw [upd_ne ne]; exact hx, fun x xs hx => by
    have ne : x ≠ p := fun e => by
      subst e; rw [h] at hx; cases hx; cases m
    rw [upd_ne ne]; exact hx, fun x o u hx => by
    have ne : x ≠ p := fun e => by
      subst e; rw [h] at hx; cases hx; cases m
    rw [upd_ne ne]; exact hx, fun x w hx => by
    by_cases e : x = p
    · subst e; exact ⟨_, upd_same⟩
    · exact ⟨w, by rw [upd_ne e]; exact hx⟩⟩
theorem Kp.of_same (h : Same H H1) : Kp M H H1 := ⟨fun x o hx _ => h x o hx, fun x xs hx => h x _ hx, fun x o u hx => h x _ hx, fun x o hx => ⟨o, h x o hx⟩⟩
theorem Kp.same (e : Kp [] H H1) : Same H H1 := fun x o h => e.keep x o h (by simp)
theorem Kp.free (e : Kp M H H1) (h : H1 x = none) : H x = none := by
  cases q : H x with
  | none => rfl
  | some o =>
    obtain ⟨o', h'⟩ := e.dom x o q
    rw [h] at h'; cases h'
theorem Kp.sqT (e : Kp M H H1) (h : SqT K H a xs) : SqT K H1 a xs := by
  rcases h with (h | ⟨o, h⟩) | h
  · exact .inl (.inl (e.tup _ _ h))
  · exact .inl (.inr ⟨o, e.frz _ _ _ h⟩)
  · exact .inr h
theorem Kp.sqL (e : Kp M H H1) (h : SqL K H a xs) (n : a ∉ M) : SqL K H1 a xs := by
  rcases h with (h | ⟨o, h⟩) | h
  · exact .inl (.inl (e.keep _ _ h n))
  · exact .inl (.inr ⟨o, e.frz _ _ _ h⟩)
  · exact .inr h
/-- what was made since, and the list at p (made since) changed -/
theorem Kp.mut (e : Kp M H H1) (h : H p = none) : Kp M H (upd H1 p o) := ⟨fun x u hx n => by
    rw [upd_ne (ne_of_none hx h)]; exact e.keep x u hx n, fun x xs hx => by rw [upd_ne (ne_of_none hx h)]; exact e.tup x xs hx, fun x o u hx => by rw [upd_ne (ne_of_none hx h)]; exact e.frz x o u hx, fun x u hx => by
    obtain ⟨o', h'⟩ := e.dom x u hx
    exact ⟨o', by rw [upd_ne (ne_of_none hx h)]; exact h'⟩⟩
end
/-! ### the source of draws -/
structure RngS (H : Hp) (a b : Addr) (cs : List Int) (s : Int) : Prop where
  ha : H a = some (.lst [.ref b, .int s])
  hb : H b = some (.lst (cs.map V.int))
  ne : a ≠ b
  len : cs.length ≤ 1000
theorem RngS.new {H : Hp} {a b p : Addr} {cs : List Int} {s : Int} {o : HO} (R : RngS H a b cs s) (hp : H p = none) : RngS (upd H p o) a b cs s :=
  ⟨by rw [upd_ne (ne_of_none R.ha hp)]; exact R.ha, by rw [upd_ne (ne_of_none R.hb hp)]; exact R.hb, R.ne, R.len⟩
theorem RngS.put {H : Hp} {a b : Addr} {cs ds : List Int} {s : Int} (R : RngS H a b cs s) (h : ds.length ≤ 1000) : RngS (upd H b (.lst (ds.map V.int))) a b ds s :=
  ⟨by rw [upd_ne R.ne]; exact R.ha, upd_same, R.ne, h⟩
theorem RngS.stir {H : Hp} {a b : Addr} {cs : List Int} {s z : Int} (R : RngS H a b cs s) : RngS (upd H a (.lst [.ref b, .int z])) a b cs z :=
  ⟨upd_same, by rw [upd_ne R.ne.symm]; exact R.hb, R.ne, R.len⟩
def Rng (H : Hp) (a b : Addr) : Prop := ∃ cs s, RngS H a b cs s
theorem Rng.ne {H : Hp} {a b : Addr} (h : Rng H a b) : a ≠ b := by obtain ⟨_, _, h⟩ := h; exact h.ne
theorem Rng.da {H : Hp} {a b : Addr} (h : Rng H a b) : ∃ o, H a = some o := by obtain ⟨_, _, h⟩ := h; exact ⟨_, h.ha⟩
theorem Rng.db {H : Hp} {a b : Addr} (h : Rng H a b) : ∃ o, H b = some o := by obtain ⟨_, _, h⟩ := h; exact ⟨_, h.hb⟩
theorem Rng.kp {H H' : Hp} {a b : Addr} {M : List Addr} (h : Rng H a b) (e : Kp M H H') (na : a ∉ M) (nb : b ∉ M) : Rng H' a b := by
  obtain ⟨cs, s, h⟩ := h
  exact ⟨cs, s, e.keep _ _ h.ha na, e.keep _ _ h.hb nb, h.ne, h.len⟩
theorem Rng.new {H : Hp} {a b p : Addr} {o : HO} (h : Rng H a b) (hp : H p = none) : Rng (upd H p o) a b := h.kp (M := []) (Kp.new hp) (by simp) (by simp)
theorem ne_free {H : Hp} {a p : Addr} (h : ∃ o, H a = some o) (hp : H p = none) : p ≠ a := by
  obtain ⟨o, h⟩ := h
  exact (ne_of_none h hp).symm
def spDraw : Sp := fun vs H Q _ => ∃ (a b : Addr) (n : Int), vs = [.ref a, .int n] ∧ Rng H a b ∧ 0 < n ∧ n < 1073741824 ∧ ∀ (z : Int) (H' : Hp), 0 ≤ z → z < n → Kp [a, b] H H' → Rng H' a b → Q (.int z) H'
def spPick (K : PySem.W.Frag) : Sp := fun vs H Q _ => ∃ (a b p : Addr) (xs : List V), vs = [.ref a, .ref p] ∧ Rng H a b ∧ SqL K H p xs ∧ p ≠ a ∧ p ≠ b ∧ xs ≠ [] ∧ xs.length ≤ 1000000 ∧
  ∀ (i : Nat) (v : V) (H' : Hp), xs[i]? = some v → Kp [a, b] H H' → Rng H' a b → Q v H'
def spHeap (K : PySem.W.Frag) : Sp := fun vs H Q _ => ∃ (p : Addr) (ns : List Int), vs = [.ref p] ∧ SqL K H p (ns.map V.int) ∧ ns.length ≤ 63 ∧
  ∀ (a b : Addr) (H' : Hp), Kp [] H H' → Rng H' a b → H a = none → H b = none → Q (.ref a) H'
section
variable {P : Program} {w : World} {K : PySem.W.Frag} {mg : Str → Option Value} {base : Heap}
theorem mkCal {x : Str} {st : Stmt} {N ps : List Str} {sp : Sp} {k : Nat} (D : ∃ f fd, C8.Def K mg x st f fd ∧ Binds K fd ps []) (S : FnScope N ps (C8.fnScope st)) (len : ∀ vs H Q E, sp vs H Q E → vs.length = ps.length)
    (hbody : ∀ (f : Addr) (cdv : Value) (A : Around) (outer : List Env) (s : Shared) (H : Hp) (vs : List V) (Q : VK) (E : XK), Room k (A.deeper (envOfC x (C8.fnScope st) s.heap.objs.size f cdv)) → sp vs H Q E →
      ∃ t, PSs (cxOf C8.CX0 P w K mg base N x (C8.fnScope st) f cdv A outer s H E).nox (C8.fnBody st) t ∧ t { nx := fun _ H' => Q .non H', rt := Q } (start N vs) H) : C8.Cal P w K mg base (k + 1) x sp [] := by
  obtain ⟨f, fd, F, b⟩ := D
  exact C8.cal0 F b .nil S len fun cdv A outer s H vs Q E hr h => hbody f cdv A outer s H vs Q E hr h
theorem mkMet {C : Addr} {m qual : Str} {st : Stmt} {N ps : List Str} {sp : Sp} {k : Nat} (c : Cls K C) (D : ∃ f fd, Meth K C m f ∧ C8.Fun K m qual st f fd ∧ Binds K fd ps []) (S : FnScope N ps (C8.fnScope st)) (len : ∀ vs H Q E, sp vs H Q E → vs.length = ps.length)
    (hbody : ∀ (f : Addr) (cdv : Value) (A : Around) (outer : List Env) (s : Shared) (H : Hp) (vs : List V) (Q : VK) (E : XK), Room k (A.deeper (envOfC qual (C8.fnScope st) s.heap.objs.size f cdv)) → sp vs H Q E →
      ∃ t, PSs (cxOf C8.CX0 P w K mg base N qual (C8.fnScope st) f cdv A outer s H E).nox (C8.fnBody st) t ∧ t { nx := fun _ H' => Q .non H', rt := Q } (start N vs) H) : C8.Met P w K mg base (k + 1) C m sp [] := by
  obtain ⟨f, fd, me, F, b⟩ := D
  exact C8.met0 c me F b S len fun cdv A outer s H vs Q E hr h => hbody f cdv A outer s H vs Q E hr h
theorem mkMak {C : Addr} {x qual : Str} {st : Stmt} {N ps : List Str} {sp : Sp} {k : Nat} (D : ∃ f fd, Mk K C f ∧ mg x = some (.ref C) ∧ C8.Fun K "__init__" qual st f fd ∧ Binds K fd ps []) (S : FnScope N ps (C8.fnScope st)) (len : ∀ vs H Q E, sp vs H Q E → vs.length = ps.length)
    (hbody : ∀ (f : Addr) (cdv : Value) (A : Around) (outer : List Env) (s : Shared) (H : Hp) (vs : List V) (Q : VK) (E : XK), Room k (A.deeper (envOfC qual (C8.fnScope st) s.heap.objs.size f cdv)) → sp vs H Q E →
      ∃ t, PSs (cxOf C8.CX0 P w K mg base N qual (C8.fnScope st) f cdv A outer s H E).nox (C8.fnBody st) t ∧ t { nx := fun _ H' => Q .non H', rt := Q } (start N vs) H) : C8.Mak P w K mg base (k + 1) x C sp [] := by
  obtain ⟨f, fd, M, hm, F, b⟩ := D
  exact C8.mak0 M hm F b .nil S len fun cdv A outer s H vs Q E hr h => hbody f cdv A outer s H vs Q E hr h
end
end KP
namespace KP
open PySem PySem.Spec PyProof.Rows L2
open PySem.W (Datum Tup Holds HoldAll)
theorem bt_int : bootBuiltins "int" = some (.type "int") := by decide +kernel
theorem bt_tuple : bootBuiltins "tuple" = some (.type "tuple") := by decide +kernel
theorem bt_list : bootBuiltins "list" = some (.type "list") := by decide +kernel
theorem bt_bool : bootBuiltins "bool" = some (.type "bool") := by decide +kernel
theorem bt_str : bootBuiltins "str" = some (.type "str") := by decide +kernel
theorem bt_isinstance : bootBuiltins "isinstance" = some (.builtin "isinstance") := by decide +kernel
theorem bt_abs : bootBuiltins "abs" = some (.builtin "abs") := by decide +kernel
theorem bt_len : bootBuiltins "len" = some (.builtin "len") := by decide +kernel
theorem bt_max : bootBuiltins "max" = some (.builtin "max") := by decide +kernel
theorem bt_min : bootBuiltins "min" = some (.builtin "min") := by decide +kernel
theorem bt_sum : bootBuiltins "sum" = some (.builtin "sum") := by decide +kernel
theorem bt_all : bootBuiltins "all" = some (.builtin "all") := by decide +kernel
theorem bt_any : bootBuiltins "any" = some (.builtin "any") := by decide +kernel
theorem bt_sorted : bootBuiltins "sorted" = some (.builtin "sorted") := by decide +kernel
theorem bt_set : bootBuiltins "set" = some (.type "set") := by decide +kernel
theorem bt_dict : bootBuiltins "dict" = some (.type "dict") := by decide +kernel
instance : Datum (Option Int) where
  toD o := match o with
    | none => .none
    | some i => .int i
  plain o := by cases o <;> rfl
  eqv a b := by
    cases a <;> cases b
    · simp only [PyData.eqv]; rfl
    · simp only [PyData.eqv]; rfl
    · simp only [PyData.eqv]; rfl
    · simp only [PyData.eqv]; rename_i x y; rw [PySem.W.beq_decide]; exact decide_eq_decide.mpr ⟨fun e => by rw [e], fun e => Option.some.inj e⟩
  depth := 0
  depth_le o := by cases o <;> exact Nat.le_refl _
mutual
def lf : PyData → Bool
  | .list _ => false
  | .tuple ds => lfAll ds
  | _ => true
def lfAll : List PyData → Bool
  | [] => true
  | d :: ds => lf d && lfAll ds
end
class TupD (α : Type) [DecidableEq α] [Datum α] : Prop where
  free : ∀ a : α, lf (Datum.toD a) = true
instance : TupD Int := ⟨fun _ => by simp [Datum.toD, lf]⟩
instance : TupD Bool := ⟨fun _ => by simp [Datum.toD, lf]⟩
instance : TupD Str := ⟨fun _ => by simp [Datum.toD, lf]⟩
instance : TupD (Option Int) := ⟨fun o => by cases o <;> simp [Datum.toD, lf]⟩
section
variable {α β : Type} [DecidableEq α] [Datum α] [DecidableEq β] [Datum β]
theorem lfAll_map [TupD α] : ∀ xs : List α, lfAll (xs.map Datum.toD) = true
  | [] => by simp [lfAll]
  | x :: xs => by rw [List.map_cons, lfAll, TupD.free x, lfAll_map xs]; rfl
instance [TupD α] : TupD (Tup α) := ⟨fun t => by show lf (.tuple (t.items.map Datum.toD)) = true; rw [lf]; exact lfAll_map t.items⟩
instance [TupD α] [TupD β] : TupD (α × β) := ⟨fun p => by show lf (.tuple [Datum.toD p.1, Datum.toD p.2]) = true; simp [lf, lfAll, TupD.free]⟩
end
def Is {α : Type} [DecidableEq α] [Datum α] (K : PySem.W.Frag) (H : Hp) (v : V) (x : α) : Prop := Dp K H v (Datum.toD x)
def IsAll {α : Type} [DecidableEq α] [Datum α] (K : PySem.W.Frag) (H : Hp) (vs : List V) (xs : List α) : Prop := DpAll K H vs (xs.map Datum.toD)
section
variable {K : PySem.W.Frag} {H H' : Hp} {M : List Addr}
mutual
theorem Dp.kp (e : Kp M H H') : ∀ (d : PyData) (v : V), lf d = true → Dp K H v d → Dp K H' v d
  | .none, _, _, h => by cases h; exact .non
  | .bool b, _, _, h => by cases h; exact .bl b
  | .int i, _, _, h => by cases h; exact .int i
  | .str x, _, _, h => by cases h; exact .str x
  | .list ds, _, q, h => by simp [lf] at q
  | .tuple ds, _, q, h => by
    cases h with
    | tup hs ha => exact .tup (e.sqT hs) (Dp.kpAll e ds _ (by simpa [lf] using q) ha)
  | .dict _, _, _, h => by cases h
theorem Dp.kpAll (e : Kp M H H') : ∀ (ds : List PyData) (vs : List V), lfAll ds = true → DpAll K H vs ds → DpAll K H' vs ds
  | [], _, _, h => by cases h; exact .nil
  | d :: ds, _, q, h => by
    have q' : lf d = true ∧ lfAll ds = true := by simpa [lfAll] using q
    cases h with
    | cons h1 h2 => exact .cons (Dp.kp e d _ q'.1 h1) (Dp.kpAll e ds _ q'.2 h2)
end
theorem Same.sqT' {a : Addr} {xs : List V} (e : Same H H') (h : SqT K H a xs) : SqT K H' a xs := by
  rcases h with (h | ⟨o, h⟩) | h
  · exact .inl (.inl (e _ _ h))
  · exact .inl (.inr ⟨o, e _ _ h⟩)
  · exact .inr h
mutual
theorem Dp.same (e : Same H H') : ∀ (d : PyData) (v : V), Dp K H v d → Dp K H' v d
  | .none, _, h => by cases h; exact .non
  | .bool b, _, h => by cases h; exact .bl b
  | .int i, _, h => by cases h; exact .int i
  | .str x, _, h => by cases h; exact .str x
  | .list ds, _, h => by
    cases h with
    | lst hs ha => exact .lst (e.seq hs) (Dp.sameAll e ds _ ha)
  | .tuple ds, _, h => by
    cases h with
    | tup hs ha => exact .tup (Same.sqT' e hs) (Dp.sameAll e ds _ ha)
  | .dict _, _, h => by cases h
theorem Dp.sameAll (e : Same H H') : ∀ (ds : List PyData) (vs : List V), DpAll K H vs ds → DpAll K H' vs ds
  | [], _, h => by cases h; exact .nil
  | d :: ds, _, h => by
    cases h with
    | cons h1 h2 => exact .cons (Dp.same e d _ h1) (Dp.sameAll e ds _ h2)
end
variable {α β : Type} [DecidableEq α] [Datum α] [DecidableEq β] [Datum β]
theorem Is.kp [TupD α] {v : V} {x : α} (e : Kp M H H') (h : Is K H v x) : Is K H' v x := Dp.kp e _ _ (TupD.free x) h
theorem IsAll.kp [TupD α] {vs : List V} {xs : List α} (e : Kp M H H') (h : IsAll K H vs xs) : IsAll K H' vs xs := Dp.kpAll e _ _ (lfAll_map xs) h
theorem Is.same {v : V} {x : α} (e : Same H H') (h : Is K H v x) : Is K H' v x := Dp.same e _ _ h
theorem IsAll.same {vs : List V} {xs : List α} (e : Same H H') (h : IsAll K H vs xs) : IsAll K H' vs xs := Dp.sameAll e _ _ h
theorem is_int (i : Int) : Is K H (.int i) i := Dp.int i
theorem is_bl (b : Bool) : Is K H (.bl b) b := Dp.bl b
theorem is_str (x : Str) : Is K H (.str x) x := Dp.str x
theorem is_none : Is K H .non (none : Option Int) := Dp.non
theorem is_some (i : Int) : Is K H (.int i) (some i) := Dp.int i
theorem IsAll.nil : IsAll K H [] ([] : List α) := DpAll.nil
theorem IsAll.cons {v : V} {vs : List V} {x : α} {xs : List α} (h : Is K H v x) (t : IsAll K H vs xs) : IsAll K H (v :: vs) (x :: xs) := DpAll.cons h t
theorem IsAll.uncons {v : V} {vs : List V} {x : α} {xs : List α} (h : IsAll K H (v :: vs) (x :: xs)) : Is K H v x ∧ IsAll K H vs xs := by
  cases h with
  | cons a b => exact ⟨a, b⟩
theorem IsAll.length : ∀ {vs : List V} {xs : List α}, IsAll K H vs xs → vs.length = xs.length
  | [], [], _ => rfl
  | [], _ :: _, h => by cases h
  | _ :: _, [], h => by cases h
  | v :: vs, x :: xs, h => by rw [List.length_cons, List.length_cons, h.uncons.2.length]
theorem IsAll.append : ∀ {vs : List V} {xs : List α} {ws : List V} {ys : List α}, IsAll K H vs xs → IsAll K H ws ys → IsAll K H (vs ++ ws) (xs ++ ys)
  | [], [], _, _, _, h => h
  | [], _ :: _, _, _, h, _ => by cases h
  | _ :: _, [], _, _, h, _ => by cases h
  | v :: vs, x :: xs, _, _, h, g => .cons h.uncons.1 (h.uncons.2.append g)
theorem IsAll.get : ∀ {vs : List V} {xs : List α}, IsAll K H vs xs → ∀ {i : Nat} {v : V}, vs[i]? = some v → ∃ x, xs[i]? = some x ∧ Is K H v x
  | [], _, _, _, _, e => by simp at e
  | _ :: _, [], h, _, _, _ => by cases h
  | v :: vs, x :: xs, h, 0, w, e => by simp at e; subst e; exact ⟨x, rfl, h.uncons.1⟩
  | v :: vs, x :: xs, h, i + 1, w, e => by
    obtain ⟨y, h1, h2⟩ := h.uncons.2.get (i := i) (v := w) (by simpa using e)
    exact ⟨y, by simpa using h1, h2⟩
theorem IsAll.get' : ∀ {vs : List V} {xs : List α}, IsAll K H vs xs → ∀ {i : Nat} {x : α}, xs[i]? = some x → ∃ v, vs[i]? = some v ∧ Is K H v x
  | _, [], _, _, _, e => by simp at e
  | [], _ :: _, h, _, _, _ => by cases h
  | v :: vs, x :: xs, h, 0, w, e => by simp at e; subst e; exact ⟨v, rfl, h.uncons.1⟩
  | v :: vs, x :: xs, h, i + 1, w, e => by
    obtain ⟨y, h1, h2⟩ := h.uncons.2.get' (i := i) (x := w) (by simpa using e)
    exact ⟨y, by simpa using h1, h2⟩
theorem IsAll.take : ∀ {vs : List V} {xs : List α} (n : Nat), IsAll K H vs xs → IsAll K H (vs.take n) (xs.take n)
  | _, _, 0, _ => by simp; exact .nil
  | [], [], n + 1, h => h
  | [], _ :: _, _, h => by cases h
  | _ :: _, [], _, h => by cases h
  | v :: vs, x :: xs, n + 1, h => .cons h.uncons.1 (h.uncons.2.take n)
theorem IsAll.drop : ∀ {vs : List V} {xs : List α} (n : Nat), IsAll K H vs xs → IsAll K H (vs.drop n) (xs.drop n)
  | _, _, 0, h => h
  | [], [], n + 1, h => h
  | [], _ :: _, _, h => by cases h
  | _ :: _, [], _, h => by cases h
  | v :: vs, x :: xs, n + 1, h => h.uncons.2.drop n
theorem IsAll.set : ∀ {vs : List V} {xs : List α} {v : V} {x : α} (i : Nat), IsAll K H vs xs → Is K H v x → IsAll K H (vs.set i v) (xs.set i x)
  | [], [], _, _, _, h, _ => h
  | [], _ :: _, _, _, _, h, _ => by cases h
  | _ :: _, [], _, _, _, h, _ => by cases h
  | v :: vs, x :: xs, _, _, 0, h, g => .cons g h.uncons.2
  | v :: vs, x :: xs, _, _, i + 1, h, g => .cons h.uncons.1 (h.uncons.2.set i g)
theorem isAll_ints : ∀ ns : List Int, IsAll K H (ns.map V.int) ns
  | [] => .nil
  | n :: r => .cons (is_int n) (isAll_ints r)
theorem isAll_strs : ∀ ns : List Str, IsAll K H (ns.map V.str) ns
  | [] => .nil
  | n :: r => .cons (is_str n) (isAll_strs r)
theorem isAll_bls : ∀ ns : List Bool, IsAll K H (ns.map V.bl) ns
  | [] => .nil
  | n :: r => .cons (is_bl n) (isAll_bls r)
theorem IsAll.ints : ∀ {vs : List V} {ns : List Int}, IsAll K H vs ns → vs = ns.map V.int
  | [], [], _ => rfl
  | [], _ :: _, h => by cases h
  | _ :: _, [], h => by cases h
  | v :: vs, x :: xs, h => by
    have a : Dp K H v (.int x) := h.uncons.1
    have e : v = .int x := by cases a; rfl
    rw [e, h.uncons.2.ints]; rfl
theorem IsAll.bls : ∀ {vs : List V} {ns : List Bool}, IsAll K H vs ns → vs = ns.map V.bl
  | [], [], _ => rfl
  | [], _ :: _, h => by cases h
  | _ :: _, [], h => by cases h
  | v :: vs, x :: xs, h => by
    have a : Dp K H v (.bool x) := h.uncons.1
    have e : v = .bl x := by cases a; rfl
    rw [e, h.uncons.2.bls]; rfl
theorem IsAll.strs : ∀ {vs : List V} {ns : List Str}, IsAll K H vs ns → vs = ns.map V.str
  | [], [], _ => rfl
  | [], _ :: _, h => by cases h
  | _ :: _, [], h => by cases h
  | v :: vs, x :: xs, h => by
    have a : Dp K H v (.str x) := h.uncons.1
    have e : v = .str x := by cases a; rfl
    rw [e, h.uncons.2.strs]; rfl
theorem is_list {a : Addr} {vs : List V} {xs : List α} (h : SqL K H a vs) (t : IsAll K H vs xs) : Is K H (.ref a) xs := Dp.lst h t
theorem is_tup {a : Addr} {vs : List V} {xs : List α} (h : SqT K H a vs) (t : IsAll K H vs xs) : Is K H (.ref a) (Tup.mk xs) := Dp.tup h t
theorem is_pair {a : Addr} {v w : V} {x : α} {y : β} (h : SqT K H a [v, w]) (g : Is K H v x) (t : Is K H w y) : Is K H (.ref a) (x, y) := Dp.tup h (.cons g (.cons t .nil))
theorem Is.int {v : V} {i : Int} (h : Is K H v i) : v = .int i := by
  have a : Dp K H v (.int i) := h
  cases a; rfl
theorem Is.bl {v : V} {i : Bool} (h : Is K H v i) : v = .bl i := by
  have a : Dp K H v (.bool i) := h
  cases a; rfl
theorem Is.str {v : V} {i : Str} (h : Is K H v i) : v = .str i := by
  have a : Dp K H v (.str i) := h
  cases a; rfl
theorem Is.tup {v : V} {t : Tup α} (h : Is K H v t) : ∃ a vs, v = .ref a ∧ SqT K H a vs ∧ IsAll K H vs t.items := by
  have a : Dp K H v (.tuple (t.items.map Datum.toD)) := h
  cases a with
  | tup h1 h2 => exact ⟨_, _, rfl, h1, h2⟩
theorem Is.tupm {v : V} {xs : List α} (h : Is K H v (Tup.mk xs)) : ∃ a vs, v = .ref a ∧ SqT K H a vs ∧ IsAll K H vs xs := h.tup
theorem Is.list {v : V} {t : List α} (h : Is K H v t) : ∃ a vs, v = .ref a ∧ SqL K H a vs ∧ IsAll K H vs t := by
  have a : Dp K H v (.list (t.map Datum.toD)) := h
  cases a with
  | lst h1 h2 => exact ⟨_, _, rfl, h1, h2⟩
theorem Is.pair {v : V} {t : α × β} (h : Is K H v t) : ∃ a u w, v = .ref a ∧ SqT K H a [u, w] ∧ Is K H u t.1 ∧ Is K H w t.2 := by
  have a : Dp K H v (.tuple [Datum.toD t.1, Datum.toD t.2]) := h
  cases a with
  | tup h1 h2 =>
    cases h2 with
    | cons a1 a2 =>
      cases a2 with
      | cons b1 b2 => cases b2; exact ⟨_, _, _, rfl, h1, a1, b1⟩
end
/-! ### ==, != of data -/
section
variable {X : Cx} {pins : List (Addr × Obj)} {σ : L2.St} {H : Hp} {s : Shared} {α : Type} [DecidableEq α] [Datum α]
theorem Is.holds (I : Inv X pins σ H s) {v : V} {u : Value} {x : α} (h : Is X.K H v x) (r : RelV v u) : Holds s.heap u x := Dp.reads I _ _ _ h r
theorem IsAll.holds (I : Inv X pins σ H s) {vs : List V} {us : List Value} {xs : List α} (h : IsAll X.K H vs xs) (r : Vals vs us) : HoldAll s.heap us xs := Dp.readsAll I _ _ _ h r
def rEqX (K : PySem.W.Frag) : R2 := fun x y H Q => ∃ (α : Type) (_ : DecidableEq α) (_ : Datum α) (a b : α), Is K H x a ∧ Is K H y b ∧ Datum.depth α ≤ 60 ∧ Q (.bl (decide (a = b))) H
def rNeX (K : PySem.W.Frag) : R2 := fun x y H Q => ∃ (α : Type) (_ : DecidableEq α) (_ : Datum α) (a b : α), Is K H x a ∧ Is K H y b ∧ Datum.depth α ≤ 60 ∧ Q (.bl (!decide (a = b))) H
theorem op_eqX (hu : X.A.units + 64 < cLine) : OpR X (compareOp .Eq) (rEqX X.K) := by
  intro pins s σ H x y v u Q I rx ry h
  obtain ⟨α, i1, i2, a, b, ha, hb, hd, q⟩ := h
  exact PySem.W.eq_datum (ha.holds I rx) (hb.holds I ry) (by omega) ⟨.bl _, H, I, rfl, q⟩
theorem op_neX (hu : X.A.units + 64 < cLine) : OpR X (compareOp .NotEq) (rNeX X.K) := by
  intro pins s σ H x y v u Q I rx ry h
  obtain ⟨α, i1, i2, a, b, ha, hb, hd, q⟩ := h
  refine PySem.W.ne_datum (ha.holds I rx) (hb.holds I ry) (by omega) ⟨.bl _, H, I, rfl, ?_⟩
  rw [decide_not]
  exact q
def rInX (K : PySem.W.Frag) (neg : Bool) : R2 := fun x y H Q => ∃ (α : Type) (_ : DecidableEq α) (_ : Datum α) (a : α) (b : List α) (p : Addr) (vs : List V), y = .ref p ∧ (SqL K H p vs ∨ SqT K H p vs) ∧ IsAll K H vs b ∧ Is K H x a ∧ Datum.depth α ≤ 60 ∧ Q (.bl (if neg then !decide (a ∈ b) else decide (a ∈ b))) H
theorem op_inX (hu : X.A.units + 64 < cLine) : OpR X (compareOp .In) (rInX X.K false) := by
  intro pins s σ H x y v u Q I rx ry h
  obtain ⟨α, i1, i2, a, b, p, vs, rfl, hs, hb, ha, hd, q⟩ := h
  cases ry
  rcases hs with hs | hs
  · obtain ⟨its, rv, ⟨o, n, ho, hc, _, hd'⟩, _⟩ := I.list hs
    exact PySem.W.in_list_datum ⟨o, ho, hc, n, hd'⟩ (by simpa using hb.holds I rv) (ha.holds I rx) (by omega) ⟨.bl _, H, I, rfl, q⟩
  · obtain ⟨its, rv, ⟨o, ho, hc, n, hd'⟩, _⟩ := I.tuple hs
    exact PySem.W.in_tuple_datum ⟨o, ho, hc, n, hd'⟩ (by simpa using hb.holds I rv) (ha.holds I rx) (by omega) ⟨.bl _, H, I, rfl, q⟩
theorem op_notInX (hu : X.A.units + 64 < cLine) : OpR X (compareOp .NotIn) (rInX X.K true) := by
  intro pins s σ H x y v u Q I rx ry h
  obtain ⟨α, i1, i2, a, b, p, vs, rfl, hs, hb, ha, hd, q⟩ := h
  have q' : Q (.bl (decide (a ∉ b))) H := by rw [decide_not]; exact q
  cases ry
  rcases hs with hs | hs
  · obtain ⟨its, rv, ⟨o, n, ho, hc, _, hd'⟩, _⟩ := I.list hs
    exact PySem.W.notIn_list_datum ⟨o, ho, hc, n, hd'⟩ (by simpa using hb.holds I rv) (ha.holds I rx) (by omega) ⟨.bl _, H, I, rfl, q'⟩
  · obtain ⟨its, rv, ⟨o, ho, hc, n, hd'⟩, _⟩ := I.tuple hs
    exact PySem.W.notIn_tuple_datum ⟨o, ho, hc, n, hd'⟩ (by simpa using hb.holds I rv) (ha.holds I rx) (by omega) ⟨.bl _, H, I, rfl, q'⟩
end
section
variable {K : PySem.W.Frag} {H : Hp} {Q : VK} {x y : V} {α : Type} [i1 : DecidableEq α] [i2 : Datum α] {a b : α}
theorem w_eqX (a b : α) (h : Is K H x a) (g : Is K H y b) (d : Datum.depth α ≤ 60) (q : Q (.bl (decide (a = b))) H) : rEqX K x y H Q := ⟨α, i1, i2, a, b, h, g, d, q⟩
theorem w_neX (a b : α) (h : Is K H x a) (g : Is K H y b) (d : Datum.depth α ≤ 60) (q : Q (.bl (!decide (a = b))) H) : rNeX K x y H Q := ⟨α, i1, i2, a, b, h, g, d, q⟩
/-- a list of ints against [] -/
theorem w_neNil {l p : Addr} {ns : List Int} (h : SqL K H l (ns.map V.int)) (g : H p = some (.lst [])) (q : Q (.bl (!decide (ns = []))) H) : rNeX K (.ref l) (.ref p) H Q :=
  w_neX ns [] (is_list h (isAll_ints ns)) (is_list (SqL.of g) .nil) (by decide) q
end
section
variable {N : List Str} {n : Str} {v : V} {vs : List V}
theorem st_cons : L2.start (n :: N) (v :: vs) = some v :: L2.start N vs := by
  unfold L2.start
  simp [Nat.succ_sub_succ]
theorem st_nilc : L2.start (n :: N) [] = none :: L2.start N [] := by
  unfold L2.start
  simp [List.replicate_succ]
theorem st_nil : L2.start [] [] = [] := rfl
end
end KP
namespace KP
open PySem PySem.Spec PyProof.Rows L2
open PySem.W (Datum Tup Holds HoldAll)
section
variable {K : PySem.W.Frag} {σ : S2} {H : Hp} {Q : VK} {a : Addr} {xs : List V} {g : TG} {tb : TS} {nx : S2 → Hp → Prop} {rt : VK} {bk ct : S2 → Hp → Prop}
theorem w_while {c : TT} (W : Nat → S2 → Hp → Prop) (m : Nat) (h0 : W m σ H) (hs : ∀ m σ H, W m σ H → c σ H fun b H1 => if b = true then tb ⟨fun σ' H' => ∃ m', m' < m ∧ W m' σ' H', rt, nx, fun σ' H' => ∃ m', m' < m ∧ W m' σ' H'⟩ σ H1 else nx σ H1)
    (mono : ∀ σ H Q Q', (∀ b H1, Q b H1 → Q' b H1) → c σ H Q → c σ H Q') : tWhile c tb ⟨nx, rt, bk, ct⟩ σ H := by
  refine ⟨W, ⟨m, h0⟩, fun m σ H w => ?_⟩
  refine mono σ H _ _ (fun b H1 h => ?_) (hs m σ H w)
  cases b with
  | true => rw [if_pos rfl] at h; rw [if_pos rfl]; exact ⟨_, fun σ' H' n => n, h⟩
  | false => rw [if_neg Bool.false_ne_true] at h; rw [if_neg Bool.false_ne_true]; exact h
/-- the test is read for any answer -/
theorem w_whileQ {c : TT} (W : Nat → S2 → Hp → Prop) (m : Nat) (h0 : W m σ H) (hs : ∀ m σ H (Q : Bool → Hp → Prop), W m σ H → (∀ H1, tb ⟨fun σ' H' => ∃ m', m' < m ∧ W m' σ' H', rt, nx, fun σ' H' => ∃ m', m' < m ∧ W m' σ' H'⟩ σ H1 → Q true H1) → (∀ H1, nx σ H1 → Q false H1) → c σ H Q) : tWhile c tb ⟨nx, rt, bk, ct⟩ σ H := by
  refine ⟨W, ⟨m, h0⟩, fun m σ H w => hs m σ H _ w (fun H1 h => ?_) (fun H1 h => ?_)⟩
  · rw [if_pos rfl]; exact ⟨_, fun σ' H' n => n, h⟩
  · rw [if_neg Bool.false_ne_true]; exact h
def lpL (K : PySem.W.Frag) (g : TG) (tb : TS) (D : Ends) (σ : S2) (x : V) (H : Hp) : Prop := ∃ a, x = .ref a ∧ (∃ xs, SqL K H a xs) ∧ ∃ W : Nat → Nat → S2 → Hp → Prop, (∃ m, W 0 m σ H) ∧ ∀ i m σ H, W i m σ H →
  ((Itl K a).stop i H ∧ D.nx σ H) ∨ ((Itl K a).go i H ∧ ∃ N : S2 → Hp → Prop, (∀ σ' H', N σ' H' → ∃ m', m' < m ∧ W (i + 1) m' σ' H') ∧ ∀ x H', (Itl K a).yld i H x H' → g x σ H' fun σ2 H2 => tb { D with nx := N, ct := N, bk := D.nx } σ2 H2)
theorem w_forL {tl : TE} {D : Ends} (q : tl σ H fun x H1 => lpL K g tb D σ x H1) : tFor (iList K tl) g tb D σ H := q
theorem w_lpL (h : SqL K H a xs) (Pv : Nat → S2 → Hp → Prop) (h0 : Pv 0 σ H) (hl : ∀ i σ H, i ≤ xs.length → Pv i σ H → SqL K H a xs)
    (hs : ∀ i x σ H, xs[i]? = some x → Pv i σ H → g x σ H fun σ2 H2 => tb ⟨Pv (i + 1), rt, nx, Pv (i + 1)⟩ σ2 H2) (hd : ∀ σ H, Pv xs.length σ H → nx σ H) : lpL K g tb ⟨nx, rt, bk, ct⟩ σ (.ref a) H :=
  ⟨a, rfl, ⟨xs, h⟩, for_list Pv h0 hl hs hd⟩
def lpT (K : PySem.W.Frag) (g : TG) (tb : TS) (D : Ends) (σ : S2) (x : V) (H : Hp) : Prop := ∃ a, x = .ref a ∧ (∃ xs, SqT K H a xs) ∧ ∃ W : Nat → Nat → S2 → Hp → Prop, (∃ m, W 0 m σ H) ∧ ∀ i m σ H, W i m σ H →
  ((Itt K a).stop i H ∧ D.nx σ H) ∨ ((Itt K a).go i H ∧ ∃ N : S2 → Hp → Prop, (∀ σ' H', N σ' H' → ∃ m', m' < m ∧ W (i + 1) m' σ' H') ∧ ∀ x H', (Itt K a).yld i H x H' → g x σ H' fun σ2 H2 => tb { D with nx := N, ct := N, bk := D.nx } σ2 H2)
theorem w_forT {tl : TE} {D : Ends} (q : tl σ H fun x H1 => lpT K g tb D σ x H1) : tFor (iTup K tl) g tb D σ H := q
theorem w_lpT (h : SqT K H a xs) (Pv : Nat → S2 → Hp → Prop) (h0 : Pv 0 σ H) (hl : ∀ i σ H, i ≤ xs.length → Pv i σ H → SqT K H a xs)
    (hs : ∀ i x σ H, xs[i]? = some x → Pv i σ H → g x σ H fun σ2 H2 => tb ⟨Pv (i + 1), rt, nx, Pv (i + 1)⟩ σ2 H2) (hd : ∀ σ H, Pv xs.length σ H → nx σ H) : lpT K g tb ⟨nx, rt, bk, ct⟩ σ (.ref a) H :=
  ⟨a, rfl, ⟨xs, h⟩, for_tup Pv h0 hl hs hd⟩
def lpR1 (g : TG) (tb : TS) (D : Ends) (σ : S2) (vs : List V) (H : Hp) : Prop := ∃ j : Int, vs = [.int j] ∧ -(2 ^ 62) ≤ j ∧ j < 2 ^ 62 ∧ ∃ W : Nat → Nat → S2 → Hp → Prop, (∃ m, W 0 m σ H) ∧ ∀ i m σ H, W i m σ H →
  ((Itr 0 j.toNat).stop i H ∧ D.nx σ H) ∨ ((Itr 0 j.toNat).go i H ∧ ∃ N : S2 → Hp → Prop, (∀ σ' H', N σ' H' → ∃ m', m' < m ∧ W (i + 1) m' σ' H') ∧ ∀ x H', (Itr 0 j.toNat).yld i H x H' → g x σ H' fun σ2 H2 => tb { D with nx := N, ct := N, bk := D.nx } σ2 H2)
theorem w_forR1 {ta : TA} {D : Ends} (q : ta σ H fun vs H1 => lpR1 g tb D σ vs H1) : tFor (iRng1 ta) g tb D σ H := q
theorem w_lpR1 {j : Int} (n : Nat) (e : j = (n : Int)) (hn : n ≤ 1000000) (Pv : Nat → S2 → Hp → Prop) (h0 : Pv 0 σ H)
    (hs : ∀ (i : Nat) σ H, i < n → Pv i σ H → g (.int (i : Int)) σ H fun σ2 H2 => tb ⟨Pv (i + 1), rt, nx, Pv (i + 1)⟩ σ2 H2) (hd : ∀ σ H, Pv n σ H → nx σ H) : lpR1 g tb ⟨nx, rt, bk, ct⟩ σ [.int j] H := by
  subst e
  refine ⟨n, rfl, by omega, by omega, ?_⟩
  rw [Int.toNat_natCast]
  exact for_range (lo := 0) Pv h0 (fun i σ H hi p => by rw [Int.zero_add]; exact hs i σ H hi p) hd
def lpET (K : PySem.W.Frag) (g : TG) (tb : TS) (D : Ends) (σ : S2) (vs : List V) (H : Hp) : Prop := ∃ a xs, vs = [.ref a] ∧ SqT K H a xs ∧ ∃ W : Nat → Nat → S2 → Hp → Prop, (∃ m, W 0 m σ H) ∧ ∀ i m σ H, W i m σ H →
  ((IteT K a).stop i H ∧ D.nx σ H) ∨ ((IteT K a).go i H ∧ ∃ N : S2 → Hp → Prop, (∀ σ' H', N σ' H' → ∃ m', m' < m ∧ W (i + 1) m' σ' H') ∧ ∀ x H', (IteT K a).yld i H x H' → g x σ H' fun σ2 H2 => tb { D with nx := N, ct := N, bk := D.nx } σ2 H2)
theorem w_forET {ta : TA} {D : Ends} (q : ta σ H fun vs H1 => lpET K g tb D σ vs H1) : tFor (iEnumT K ta) g tb D σ H := q
theorem w_lpET (h : SqT K H a xs) (Pv : Nat → S2 → Hp → Prop) (h0 : Pv 0 σ H) (hl : ∀ i σ H, i ≤ xs.length → Pv i σ H → SqT K H a xs)
    (hs : ∀ i x σ H T, xs[i]? = some x → Pv i σ H → H T = none → g (.ref T) σ (upd H T (.tup [.int (i : Nat), x])) fun σ2 H2 => tb ⟨Pv (i + 1), rt, nx, Pv (i + 1)⟩ σ2 H2) (hd : ∀ σ H, Pv xs.length σ H → nx σ H) : lpET K g tb ⟨nx, rt, bk, ct⟩ σ [.ref a] H :=
  ⟨a, xs, rfl, h, for_enumT Pv h0 hl hs hd⟩
theorem walk_enumT : Walk (IteT K a) xs.length (fun H => SqT K H a xs) (YPair (fun i => some (.int (i : Nat))) (fun i => xs[i]?)) := by
  refine ⟨fun i _ hi q => ⟨xs, xs[i], q, by simp [hi]⟩, fun _ q => ⟨xs, q, rfl⟩, fun i H v H' _ q y => ?_⟩
  obtain ⟨T, x, h1, h2, h3, h4⟩ := y
  exact ⟨T, .int (i : Nat), x, h1, h2, h3, rfl, h4 xs q⟩
end
/-! ### comprehensions -/
section
variable {K : PySem.W.Frag} {σ : S2} {H : Hp} {Q : VK} {a : Addr} {xs : List V} {g : TG} {tt : TT} {te : TE} {vs : List Nat} {β : Type} [DecidableEq β] [Datum β] [TupD β]
/-- the core: a walk that stands while M alone changes; R a resource; P what is known of the made items -/
theorem lc_go {Jt : It} {n : Nat} {G : Hp → Prop} {Y : Nat → Hp → V → Hp → Prop} (wk : Walk Jt n G Y) (M : List Addr) (R : Hp → Prop) (J : Nat → List β → Prop) (hn : n ≤ 1000000)
    (hM : ∀ m ∈ M, ∃ o, H m = some o) (hG : ∀ H1, Kp M H H1 → G H1) (hR0 : R H) (hR : ∀ H1 D o, H D = none → R H1 → R (upd H1 D o)) (J0 : J 0 []) 
    (hs : ∀ i x acc H1 H2 (QE : VK) (QF : Hp → Prop), i < n → Kp M H H1 → R H1 → J i acc → acc.length ≤ i → Y i H1 x H2 → (∀ v y H4, Kp M H1 H4 → R H4 → Is K H4 v y → J (i + 1) (acc ++ [y]) → QE v H4) → (∀ H3, Kp M H1 H3 → R H3 → J (i + 1) acc → QF H3) →
      g x (wipe σ vs) H2 fun σ2 H3 => wipe σ2 vs = wipe σ vs ∧ tt σ2 H3 fun b H4 => if b = true then te σ2 H4 QE else QF H4)
    (hd : ∀ D ws ys H', H D = none → Kp M H H' → R H' → J n ys → ys.length ≤ n → IsAll K H' ws ys → H' D = some (.lst ws) → Q (.ref D) H') :
    ∀ D, H D = none → ∃ W : Nat → Nat → Hp → Prop, (∃ m, W 0 m (upd H D (.lst []))) ∧ ∀ i m H, W i m H →
      (Jt.stop i H ∧ Q (.ref D) H) ∨ (Jt.go i H ∧ ∃ Nx : Hp → Prop, (∀ H', Nx H' → ∃ m', m' < m ∧ W (i + 1) m' H') ∧ ∀ x H', Jt.yld i H x H' → g x (wipe σ vs) H' fun σ2 H2 => wipe σ2 vs = wipe σ vs ∧ tt σ2 H2 fun b H3 =>
        if b = true then te σ2 H3 fun y H4 => ∃ acc, H4 D = some (.lst acc) ∧ acc.length < sizeLine ∧ Nx (upd H4 D (.lst (acc ++ [y]))) else Nx H3) := by
  intro D hD
  have hDM : D ∉ M := fun m => by
    obtain ⟨o, h⟩ := hM D m
    rw [hD] at h; cases h
  refine lc_it wk (fun i H1 => Kp M H H1 ∧ R H1 ∧ ∃ ws acc, H1 D = some (.lst ws) ∧ IsAll K H1 ws acc ∧ J i acc ∧ acc.length ≤ i) ⟨Kp.new hD, hR _ _ _ hD hR0, [], [], upd_same, .nil, J0, Nat.le_refl _⟩ (fun i H1 _ p => hG H1 p.1) ?_ ?_
  · rintro i x H1 H2 hi ⟨e1, r1, ws, acc, hws, ha, hj, hl⟩ hy
    refine hs i x acc H1 H2 _ _ hi e1 r1 hj hl hy (fun v y H4 e4 r4 h4 j4 => ?_) (fun H3 e3 r3 j3 => ?_)
    · have hws4 : H4 D = some (.lst ws) := e4.keep _ _ hws hDM
      have eu : Kp [D] H4 (upd H4 D (.lst (ws ++ [v]))) := Kp.set hws4 rfl (by simp)
      refine ⟨ws, hws4, ?_, (e1.trans e4).mut hD, hR _ _ _ hD r4, ws ++ [v], acc ++ [y], upd_same, (((ha.kp e4).kp eu).append (.cons (h4.kp eu) .nil)), j4, by simp; omega⟩
      rw [ha.length, sizeLine_eq]
      omega
    · exact ⟨e1.trans e3, r3, ws, acc, e3.keep _ _ hws hDM, ha.kp e3, j3, by omega⟩
  · rintro H1 ⟨e1, r1, ws, acc, hws, ha, hj, hl⟩
    exact hd D ws acc H1 hD e1 r1 hj hl ha hws
def lcL (K : PySem.W.Frag) (g : TG) (tt : TT) (te : TE) (vs : List Nat) (σ : S2) (Q : VK) (x : V) (H : Hp) : Prop := ∃ a, x = .ref a ∧ (∃ xs, SqL K H a xs) ∧ ∀ D, H D = none → ∃ W : Nat → Nat → Hp → Prop, (∃ m, W 0 m (upd H D (.lst []))) ∧ ∀ i m H, W i m H →
      ((Itl K a).stop i H ∧ Q (.ref D) H) ∨ ((Itl K a).go i H ∧ ∃ Nx : Hp → Prop, (∀ H', Nx H' → ∃ m', m' < m ∧ W (i + 1) m' H') ∧ ∀ x H', (Itl K a).yld i H x H' → g x (wipe σ vs) H' fun σ2 H2 => wipe σ2 vs = wipe σ vs ∧ tt σ2 H2 fun b H3 =>
        if b = true then te σ2 H3 fun y H4 => ∃ acc, H4 D = some (.lst acc) ∧ acc.length < sizeLine ∧ Nx (upd H4 D (.lst (acc ++ [y]))) else Nx H3)
theorem w_lcL {tl : TE} (q : tl σ H fun x H1 => lcL K g tt te vs σ Q x H1) : tLc (iList K tl) g tt te vs σ H Q := q
theorem w_lcLV (h : SqL K H a xs) (β : Type) [DecidableEq β] [Datum β] [TupD β] (M : List Addr) (R : Hp → Prop) (J : Nat → List β → Prop) (hn : xs.length ≤ 1000000)
    (hM : ∀ m ∈ M, ∃ o, H m = some o) (ha : a ∉ M) (hR0 : R H) (hR : ∀ H1 D o, H D = none → R H1 → R (upd H1 D o)) (J0 : J 0 []) 
    (hs : ∀ i x acc H1 (QE : VK) (QF : Hp → Prop), xs[i]? = some x → Kp M H H1 → R H1 → J i acc → acc.length ≤ i → (∀ v y H4, Kp M H1 H4 → R H4 → Is K H4 v y → J (i + 1) (acc ++ [y]) → QE v H4) → (∀ H3, Kp M H1 H3 → R H3 → J (i + 1) acc → QF H3) →
      g x (wipe σ vs) H1 fun σ2 H3 => wipe σ2 vs = wipe σ vs ∧ tt σ2 H3 fun b H4 => if b = true then te σ2 H4 QE else QF H4)
    (hd : ∀ D ws ys H', H D = none → Kp M H H' → R H' → J xs.length ys → ys.length ≤ xs.length → IsAll K H' ws ys → H' D = some (.lst ws) → Q (.ref D) H') : lcL K g tt te vs σ Q (.ref a) H :=
  ⟨a, rfl, ⟨xs, h⟩, lc_go (walk_list (xs := xs)) M R J hn hM (fun H1 e => e.sqL h ha) hR0 hR J0 (fun i x acc H1 H2 QE QF hi e r j l y => by
    obtain ⟨rfl, y⟩ := y
    exact hs i x acc _ QE QF y e r j l) hd⟩
def lcT (K : PySem.W.Frag) (g : TG) (tt : TT) (te : TE) (vs : List Nat) (σ : S2) (Q : VK) (x : V) (H : Hp) : Prop := ∃ a, x = .ref a ∧ (∃ xs, SqT K H a xs) ∧ ∀ D, H D = none → ∃ W : Nat → Nat → Hp → Prop, (∃ m, W 0 m (upd H D (.lst []))) ∧ ∀ i m H, W i m H →
      ((Itt K a).stop i H ∧ Q (.ref D) H) ∨ ((Itt K a).go i H ∧ ∃ Nx : Hp → Prop, (∀ H', Nx H' → ∃ m', m' < m ∧ W (i + 1) m' H') ∧ ∀ x H', (Itt K a).yld i H x H' → g x (wipe σ vs) H' fun σ2 H2 => wipe σ2 vs = wipe σ vs ∧ tt σ2 H2 fun b H3 =>
        if b = true then te σ2 H3 fun y H4 => ∃ acc, H4 D = some (.lst acc) ∧ acc.length < sizeLine ∧ Nx (upd H4 D (.lst (acc ++ [y]))) else Nx H3)
theorem w_lcT {tl : TE} (q : tl σ H fun x H1 => lcT K g tt te vs σ Q x H1) : tLc (iTup K tl) g tt te vs σ H Q := q
theorem w_lcTV (h : SqT K H a xs) (β : Type) [DecidableEq β] [Datum β] [TupD β] (M : List Addr) (R : Hp → Prop) (J : Nat → List β → Prop) (hn : xs.length ≤ 1000000)
    (hM : ∀ m ∈ M, ∃ o, H m = some o) (hR0 : R H) (hR : ∀ H1 D o, H D = none → R H1 → R (upd H1 D o)) (J0 : J 0 []) 
    (hs : ∀ i x acc H1 (QE : VK) (QF : Hp → Prop), xs[i]? = some x → Kp M H H1 → R H1 → J i acc → acc.length ≤ i → (∀ v y H4, Kp M H1 H4 → R H4 → Is K H4 v y → J (i + 1) (acc ++ [y]) → QE v H4) → (∀ H3, Kp M H1 H3 → R H3 → J (i + 1) acc → QF H3) →
      g x (wipe σ vs) H1 fun σ2 H3 => wipe σ2 vs = wipe σ vs ∧ tt σ2 H3 fun b H4 => if b = true then te σ2 H4 QE else QF H4)
    (hd : ∀ D ws ys H', H D = none → Kp M H H' → R H' → J xs.length ys → ys.length ≤ xs.length → IsAll K H' ws ys → H' D = some (.lst ws) → Q (.ref D) H') : lcT K g tt te vs σ Q (.ref a) H :=
  ⟨a, rfl, ⟨xs, h⟩, lc_go (walk_tup (xs := xs)) M R J hn hM (fun H1 e => e.sqT h) hR0 hR J0 (fun i x acc H1 H2 QE QF hi e r j l y => by
    obtain ⟨rfl, y⟩ := y
    exact hs i x acc _ QE QF y e r j l) hd⟩
def lcR1 (g : TG) (tt : TT) (te : TE) (vs : List Nat) (σ : S2) (Q : VK) (ws : List V) (H : Hp) : Prop := ∃ j : Int, ws = [.int j] ∧ -(2 ^ 62) ≤ j ∧ j < 2 ^ 62 ∧ ∀ D, H D = none → ∃ W : Nat → Nat → Hp → Prop, (∃ m, W 0 m (upd H D (.lst []))) ∧ ∀ i m H, W i m H →
      ((Itr 0 j.toNat).stop i H ∧ Q (.ref D) H) ∨ ((Itr 0 j.toNat).go i H ∧ ∃ Nx : Hp → Prop, (∀ H', Nx H' → ∃ m', m' < m ∧ W (i + 1) m' H') ∧ ∀ x H', (Itr 0 j.toNat).yld i H x H' → g x (wipe σ vs) H' fun σ2 H2 => wipe σ2 vs = wipe σ vs ∧ tt σ2 H2 fun b H3 =>
        if b = true then te σ2 H3 fun y H4 => ∃ acc, H4 D = some (.lst acc) ∧ acc.length < sizeLine ∧ Nx (upd H4 D (.lst (acc ++ [y]))) else Nx H3)
theorem w_lcR1 {ta : TA} (q : ta σ H fun ws H1 => lcR1 g tt te vs σ Q ws H1) : tLc (iRng1 ta) g tt te vs σ H Q := q
theorem w_lcR1V {j : Int} (K : PySem.W.Frag) (n : Nat) (e : j = (n : Int)) (β : Type) [DecidableEq β] [Datum β] [TupD β] (M : List Addr) (R : Hp → Prop) (J : Nat → List β → Prop) (hn : n ≤ 1000000)
    (hM : ∀ m ∈ M, ∃ o, H m = some o) (hR0 : R H) (hR : ∀ H1 D o, H D = none → R H1 → R (upd H1 D o)) (J0 : J 0 []) 
    (hs : ∀ (i : Nat) acc H1 (QE : VK) (QF : Hp → Prop), i < n → Kp M H H1 → R H1 → J i acc → acc.length ≤ i → (∀ v y H4, Kp M H1 H4 → R H4 → Is K H4 v y → J (i + 1) (acc ++ [y]) → QE v H4) → (∀ H3, Kp M H1 H3 → R H3 → J (i + 1) acc → QF H3) →
      g (.int (i : Int)) (wipe σ vs) H1 fun σ2 H3 => wipe σ2 vs = wipe σ vs ∧ tt σ2 H3 fun b H4 => if b = true then te σ2 H4 QE else QF H4)
    (hd : ∀ D ws ys H', H D = none → Kp M H H' → R H' → J n ys → ys.length ≤ n → IsAll K H' ws ys → H' D = some (.lst ws) → Q (.ref D) H') : lcR1 g tt te vs σ Q [.int j] H := by
  subst e
  refine ⟨n, rfl, by omega, by omega, ?_⟩
  rw [Int.toNat_natCast]
  exact lc_go (walk_range (lo := 0) (n := n)) M R J hn hM (fun _ _ => True.intro) hR0 hR J0 (fun i x acc H1 H2 QE QF hi e r j l y k1 k2 => by
    obtain ⟨rfl, rfl⟩ := y
    have h := hs i acc _ QE QF hi e r j l k1 k2
    show g (.int (0 + (i : Int))) _ _ _
    rw [Int.zero_add]
    exact h) hd
def lcR2 (g : TG) (tt : TT) (te : TE) (vs : List Nat) (σ : S2) (Q : VK) (ws : List V) (H : Hp) : Prop := ∃ i j : Int, ws = [.int i, .int j] ∧ (-(2 ^ 62) ≤ i ∧ i < 2 ^ 62 ∧ -(2 ^ 62) ≤ j ∧ j < 2 ^ 62) ∧ ∀ D, H D = none → ∃ W : Nat → Nat → Hp → Prop, (∃ m, W 0 m (upd H D (.lst []))) ∧ ∀ k m H, W k m H →
      ((Itr i (j - i).toNat).stop k H ∧ Q (.ref D) H) ∨ ((Itr i (j - i).toNat).go k H ∧ ∃ Nx : Hp → Prop, (∀ H', Nx H' → ∃ m', m' < m ∧ W (k + 1) m' H') ∧ ∀ x H', (Itr i (j - i).toNat).yld k H x H' → g x (wipe σ vs) H' fun σ2 H2 => wipe σ2 vs = wipe σ vs ∧ tt σ2 H2 fun b H3 =>
        if b = true then te σ2 H3 fun y H4 => ∃ acc, H4 D = some (.lst acc) ∧ acc.length < sizeLine ∧ Nx (upd H4 D (.lst (acc ++ [y]))) else Nx H3)
theorem w_lcR2 {ta : TA} (q : ta σ H fun ws H1 => lcR2 g tt te vs σ Q ws H1) : tLc (iRng2 ta) g tt te vs σ H Q := q
theorem w_lcR2V {lo hi : Int} (K : PySem.W.Frag) (n : Nat) (e : hi = lo + (n : Int)) (hlo : 0 ≤ lo ∧ lo ≤ 1000000) (β : Type) [DecidableEq β] [Datum β] [TupD β] (M : List Addr) (R : Hp → Prop) (J : Nat → List β → Prop) (hn : n ≤ 1000000)
    (hM : ∀ m ∈ M, ∃ o, H m = some o) (hR0 : R H) (hR : ∀ H1 D o, H D = none → R H1 → R (upd H1 D o)) (J0 : J 0 []) 
    (hs : ∀ (i : Nat) acc H1 (QE : VK) (QF : Hp → Prop), i < n → Kp M H H1 → R H1 → J i acc → acc.length ≤ i → (∀ v y H4, Kp M H1 H4 → R H4 → Is K H4 v y → J (i + 1) (acc ++ [y]) → QE v H4) → (∀ H3, Kp M H1 H3 → R H3 → J (i + 1) acc → QF H3) →
      g (.int (lo + (i : Int))) (wipe σ vs) H1 fun σ2 H3 => wipe σ2 vs = wipe σ vs ∧ tt σ2 H3 fun b H4 => if b = true then te σ2 H4 QE else QF H4)
    (hd : ∀ D ws ys H', H D = none → Kp M H H' → R H' → J n ys → ys.length ≤ n → IsAll K H' ws ys → H' D = some (.lst ws) → Q (.ref D) H') : lcR2 g tt te vs σ Q [.int lo, .int hi] H := by
  subst e
  refine ⟨lo, _, rfl, ⟨by omega, by omega, by omega, by omega⟩, ?_⟩
  rw [show (lo + (n : Int) - lo).toNat = n by omega]
  exact lc_go (walk_range (lo := lo) (n := n)) M R J hn hM (fun _ _ => True.intro) hR0 hR J0 (fun i x acc H1 H2 QE QF hi e r j l y k1 k2 => by
    obtain ⟨rfl, rfl⟩ := y
    exact hs i acc _ QE QF hi e r j l k1 k2) hd
theorem w_yes {Q : Bool → Hp → Prop} (q : Q true H) : tYes σ H Q := q
theorem w_and {A B : Prop} (a : A) (b : B) : A ∧ B := ⟨a, b⟩
end
end KP
namespace KP
open PySem PySem.Spec PyProof.Rows L2
/-! ### calls of built-ins, named -/
def rInt : List V → Hp → VK → Prop := fun xs H Q => (∃ i, xs = [.int i] ∧ Q (.int i) H) ∨ ∃ k, xs = [.bl k] ∧ Q (.int (if k then 1 else 0)) H
def rAbs : List V → Hp → VK → Prop := fun xs H Q => ∃ i, xs = [.int i] ∧ Q (.int (if i < 0 then -i else i)) H
def rLenQ (K : PySem.W.Frag) : List V → Hp → VK → Prop := fun xs H Q => ∃ p ys, xs = [.ref p] ∧ (SqL K H p ys ∨ SqT K H p ys) ∧ Q (.int ys.length) H
def rListQ (K : PySem.W.Frag) : List V → Hp → VK → Prop := fun xs H Q => ∃ p ys, xs = [.ref p] ∧ (SqL K H p ys ∨ SqT K H p ys) ∧ ∀ l, H l = none → Q (.ref l) (upd H l (.lst ys))
def rTupQ (K : PySem.W.Frag) : List V → Hp → VK → Prop := fun xs H Q => ∃ p ys, xs = [.ref p] ∧ ((SqL K H p ys ∧ ∀ l, H l = none → Q (.ref l) (upd H l (.tup ys))) ∨ (SqT K H p ys ∧ Q (.ref p) H))
def rMax2Q : List V → Hp → VK → Prop := fun xs H Q => ∃ i j, xs = [.int i, .int j] ∧ Q (.int (if j > i then j else i)) H
def rMin2Q : List V → Hp → VK → Prop := fun xs H Q => ∃ i j, xs = [.int i, .int j] ∧ Q (.int (if j < i then j else i)) H
section
variable {X : Cx}
theorem cq_int : CallR X (.type "int") rInt := call_int1
theorem cq_abs : CallR X (.builtin "abs") rAbs := call_abs
theorem cq_len : CallR X (.builtin "len") (rLenQ X.K) := call_len_seq
theorem cq_list : CallR X (.type "list") (rListQ X.K) := call_list_of
theorem cq_tuple : CallR X (.type "tuple") (rTupQ X.K) := call_tuple_of
theorem cq_max2 (hc : X.calm = true) : CallR X (.builtin "max") rMax2Q := call_max2 hc
theorem cq_min2 (hc : X.calm = true) : CallR X (.builtin "min") rMin2Q := call_min2 hc
variable {K : PySem.W.Frag} {H : Hp} {Q : VK} {p : Addr} {ys : List V}
theorem w_intI {i : Int} (q : Q (.int i) H) : rInt [.int i] H Q := .inl ⟨i, rfl, q⟩
theorem w_intB {b : Bool} (q : Q (.int (if b then 1 else 0)) H) : rInt [.bl b] H Q := .inr ⟨b, rfl, q⟩
theorem w_abs {i : Int} (q : Q (.int (if i < 0 then -i else i)) H) : rAbs [.int i] H Q := ⟨i, rfl, q⟩
theorem w_lenL (h : SqL K H p ys) (q : Q (.int ys.length) H) : rLenQ K [.ref p] H Q := ⟨p, ys, rfl, .inl h, q⟩
theorem w_lenT (h : SqT K H p ys) (q : Q (.int ys.length) H) : rLenQ K [.ref p] H Q := ⟨p, ys, rfl, .inr h, q⟩
theorem w_listL (h : SqL K H p ys) (q : ∀ l, H l = none → Q (.ref l) (upd H l (.lst ys))) : rListQ K [.ref p] H Q := ⟨p, ys, rfl, .inl h, q⟩
theorem w_listT (h : SqT K H p ys) (q : ∀ l, H l = none → Q (.ref l) (upd H l (.lst ys))) : rListQ K [.ref p] H Q := ⟨p, ys, rfl, .inr h, q⟩
theorem w_tupL (h : SqL K H p ys) (q : ∀ l, H l = none → Q (.ref l) (upd H l (.tup ys))) : rTupQ K [.ref p] H Q := ⟨p, ys, rfl, .inl ⟨h, q⟩⟩
theorem w_tupT (h : SqT K H p ys) (q : Q (.ref p) H) : rTupQ K [.ref p] H Q := ⟨p, ys, rfl, .inr ⟨h, q⟩⟩
theorem w_max2 {i j : Int} (q : Q (.int (if j > i then j else i)) H) : rMax2Q [.int i, .int j] H Q := ⟨i, j, rfl, q⟩
theorem w_min2 {i j : Int} (q : Q (.int (if j < i then j else i)) H) : rMin2Q [.int i, .int j] H Q := ⟨i, j, rfl, q⟩
theorem w_sum {ns : List Int} (h : SqL K H p (ns.map V.int)) (q : Q (.int ns.sum) H) : rSum K [.ref p] H Q := ⟨p, ns, rfl, h, q⟩
theorem w_all {bs : List Bool} (h : SqL K H p (bs.map V.bl)) (q : Q (.bl (bs.all id)) H) : rAll K [.ref p] H Q := ⟨p, bs, rfl, h, q⟩
theorem w_any {bs : List Bool} (h : SqL K H p (bs.map V.bl)) (q : Q (.bl (bs.any id)) H) : rAny K [.ref p] H Q := ⟨p, bs, rfl, h, q⟩
theorem w_isi {x c : V} {t u : Value} {b : Bool} (k : ClsV c u) (h : TyX K H x t) (e : PySem.W.kitOne K t u = some b) (q : Q (.bl b) H) : rIsi K [x, c] H Q := ⟨x, c, t, u, b, rfl, k, h, e, q⟩
theorem w_isiII {i : Int} (q : Q (.bl true) H) : rIsi K [.int i, .ty "int"] H Q := w_isi (.ty _) (.base (.int i)) (kit_ty (by decide +kernel)) q
theorem w_isiIB {i : Int} (q : Q (.bl false) H) : rIsi K [.int i, .ty "bool"] H Q := w_isi (.ty _) (.base (.int i)) (kit_ty (by decide +kernel)) q
theorem w_isiIT {i : Int} (q : Q (.bl false) H) : rIsi K [.int i, .ty "tuple"] H Q := w_isi (.ty _) (.base (.int i)) (kit_ty (by decide +kernel)) q
theorem tyx_tup (h : SqT K H p ys) : TyX K H (.ref p) (.type "tuple") := by
  rcases h with (h | ⟨o, h⟩) | ⟨o, its, n, hk, hc, _⟩
  · exact .base (.tup h)
  · exact .fTuple h
  · exact .kTuple hk hc
theorem w_isiTT (h : SqT K H p ys) (q : Q (.bl true) H) : rIsi K [.ref p, .ty "tuple"] H Q := w_isi (.ty _) (tyx_tup h) (kit_ty (by decide +kernel)) q
end
end KP
namespace KP
open PySem PySem.Spec PyProof.Rows L2
def cutI (ns : List Int) (lo hi : Option Int) : List Int := (ns.drop (HT.sIx ns.length 0 lo)).take (HT.sIx ns.length ns.length hi - HT.sIx ns.length 0 lo)
theorem cutV_ints (ns : List Int) (lo hi : Option Int) : cutV (ns.map V.int) lo hi = (cutI ns lo hi).map V.int := by
  unfold cutV cutI
  rw [List.length_map, List.map_take, List.map_drop]
theorem cutI_len (ns : List Int) (lo hi : Option Int) : (cutI ns lo hi).length ≤ ns.length := by
  unfold cutI
  rw [List.length_take, List.length_drop]
  omega
theorem cutI_len60 (ns : List Int) : (cutI ns none (some 60)).length ≤ 60 := by
  unfold cutI
  rw [List.length_take, List.length_drop]
  have : HT.sIx ns.length ns.length (some 60) = min 60 ns.length := HT.sIx_nat ns.length ns.length 60
  rw [this]
  omega
theorem int_at {ns : List Int} {i : Nat} {x : V} (h : (ns.map V.int)[i]? = some x) : ∃ c, x = V.int c := by
  rw [List.getElem?_map] at h
  cases e : ns[i]? with
  | none => rw [e] at h; cases h
  | some c => rw [e] at h; exact ⟨c, (Option.some.inj h).symm⟩
theorem int_at' {ns : List Int} {i : Nat} {x : V} (h : (ns.map V.int)[i]? = some x) : ∃ c, x = V.int c ∧ ns[i]? = some c := by
  rw [List.getElem?_map] at h
  cases e : ns[i]? with
  | none => rw [e] at h; cases h
  | some c => rw [e] at h; exact ⟨c, (Option.some.inj h).symm, rfl⟩
end KP
namespace KP
open PySem PySem.Spec PyProof.Rows L2
theorem pe_ty {X : Cx} {x : Str} {T : String} {pos : Pos} (hg : Gl X x) (hm : X.mg x = none) (hv : bootBuiltins x = some (.type T)) (hn : x ≠ "__name__" := by decide) (hd : (x == ("__debug__" : Str)) = false := by decide) : PE X (.Name x pos) (tC (.ty T)) := pe_bltn hg hm hv rfl hn hd
end KP
namespace KP
theorem w_itNT {A B : Prop} (h : B) : if (!true) = true then A else B := L2.iteF h
theorem w_itNF {A B : Prop} (h : A) : if (!false) = true then A else B := L2.iteT h
end KP
namespace KP
open PySem PySem.Spec PyProof.Rows L2
/-! ### rules with the written part named (so that they stand within comprehensions too) -/
section
variable {X : Cx} {tg o e l a b : Expr} {es : List Expr} {tl te to ta tb : TE} {t : TA} {f name : Str} {pos apos cpos pos' : Pos} {T id : String} {r : V → List V → Hp → VK → Prop}
theorem ix_listK (K : PySem.W.Frag) (h : X.K = K) : IxR X (rIxL K) := h ▸ ix_list
theorem ix_tupK (K : PySem.W.Frag) (h : X.K = K) : IxR X (rIxT K) := h ▸ ix_tup
theorem sl_listK (K : PySem.W.Frag) (h : X.K = K) : SlR X (rSlL K) := h ▸ sl_list
theorem sl_tupAK (K : PySem.W.Frag) (h : X.K = K) : SlR X (rSlA K) := h ▸ sl_tupA
theorem op_eqXK (K : PySem.W.Frag) (h : X.K = K) (hu : X.A.units + 64 < cLine) : OpR X (compareOp .Eq) (rEqX K) := h ▸ op_eqX hu
theorem op_neXK (K : PySem.W.Frag) (h : X.K = K) (hu : X.A.units + 64 < cLine) : OpR X (compareOp .NotEq) (rNeX K) := h ▸ op_neX hu
theorem op_inXK (K : PySem.W.Frag) (h : X.K = K) (hu : X.A.units + 64 < cLine) : OpR X (compareOp .In) (rInX K false) := h ▸ op_inX hu
theorem op_notInXK (K : PySem.W.Frag) (h : X.K = K) (hu : X.A.units + 64 < cLine) : OpR X (compareOp .NotIn) (rInX K true) := h ▸ op_notInX hu
theorem op_catAK (K : PySem.W.Frag) (h : X.K = K) : OpR X (binaryOp .Add) (rCatA K) := h ▸ op_catA
theorem op_repWK (K : PySem.W.Frag) (h : X.K = K) : OpR X (binaryOp .Mult) (rRepW K) := h ▸ op_repW
theorem call_isiK' (K : PySem.W.Frag) (h : X.K = K) : CallR X (.builtin "isinstance") (rIsi K) := h ▸ call_isi
theorem cq_lenK (K : PySem.W.Frag) (h : X.K = K) : CallR X (.builtin "len") (rLenQ K) := h ▸ cq_len
theorem cq_listK (K : PySem.W.Frag) (h : X.K = K) : CallR X (.type "list") (rListQ K) := h ▸ cq_list
theorem cq_tupleK (K : PySem.W.Frag) (h : X.K = K) : CallR X (.type "tuple") (rTupQ K) := h ▸ cq_tuple
theorem cr_sumK (K : PySem.W.Frag) (h : X.K = K) (hc : X.calm = true) : CallR X (.builtin "sum") (rSum K) := h ▸ cr_sum hc
theorem cr_allK (K : PySem.W.Frag) (h : X.K = K) (hc : X.calm = true) : CallR X (.builtin "all") (rAll K) := h ▸ cr_all hc
theorem cr_anyK (K : PySem.W.Frag) (h : X.K = K) (hc : X.calm = true) : CallR X (.builtin "any") (rAny K) := h ▸ cr_any hc
theorem cr_maxK (K : PySem.W.Frag) (h : X.K = K) (hc : X.calm = true) : CallR X (.builtin "max") (rMax K) := h ▸ cr_max hc
theorem cr_minK (K : PySem.W.Frag) (h : X.K = K) (hc : X.calm = true) : CallR X (.builtin "min") (rMin K) := h ▸ cr_min hc
theorem cr_sortedK (K : PySem.W.Frag) (h : X.K = K) : CallR X (.builtin "sorted") (rSorted K) := h ▸ cr_sorted
theorem cr_sortedSK (K : PySem.W.Frag) (h : X.K = K) : CallR X (.builtin "sorted") (rSortedS K) := h ▸ cr_sortedS
theorem pi_listK (K : PySem.W.Frag) (h : X.K = K) (hl : PE X l tl) : PI X tg l (iList K tl) := h ▸ pi_list hl
theorem pi_tupK (K : PySem.W.Frag) (h : X.K = K) (hl : PE X l tl) : PI X tg l (iTup K tl) := h ▸ pi_tup hl
theorem pi_enumTK {p tpos : Pos} {elts : List Expr} {kk : Nat} (K : PySem.W.Frag) (h : X.K = K) (hg : Gl X "enumerate") (hm : X.mg "enumerate" = none) (ha : PA X [e] t) (hs : starEach [e] X.env = [(false, eval e X.env)] := by rfl) :
    PI X (.Tuple elts kk tpos) (.Call (.Name "enumerate" p) [e] [] pos) (iEnumT K t) := h ▸ pi_enumT hg hm ha hs
theorem pe_fldK (K : PySem.W.Frag) (h : X.K = K) (he : PE X e te) (hb : attributeBase e f X.env (eval e X.env) = eval e X.env) : PE X (.Attribute e f pos) (tFld K te f) := h ▸ pe_fld he hb
theorem ps_fldK {value : Expr} {tv : TE} (K : PySem.W.Frag) (h : X.K = K) (ha : PE X o ta) (hv : PE X value tv) (hs : swapsWith value (some (.Attribute o f pos')) pos.line X.env = pure false) : PS X (.Assign [.Attribute o f pos'] value pos) (sFld K ta tv f) := h ▸ ps_fld ha hv hs
theorem pg_fldK (K : PySem.W.Frag) (h : X.K = K) (ho : PE X o to) : PG X (.Attribute o f pos) (gFld K to f) := h ▸ pg_fld ho
theorem pg_tupK {ts : TGs} {n k : Nat} (K : PySem.W.Frag) (h' : X.K = K) (hc : X.calm = true) (h : PGs X es ts) (hn : (assignEach es X.env).length = n := by rfl) (hst : (assignEach es X.env).findIdx? (·.1) = none := by rfl) : PG X (.Tuple es k pos) (gTup K n ts) := h' ▸ pg_tup hc h hn hst
theorem pg_unlK {ts : TGs} {n k : Nat} (K : PySem.W.Frag) (h' : X.K = K) (hc : X.calm = true) (h : PGs X es ts) (hn : (assignEach es X.env).length = n := by rfl) (hst : (assignEach es X.env).findIdx? (·.1) = none := by rfl) : PG X (.Tuple es k pos) (gUnl K n ts) := h' ▸ pg_unl hc h hn hst
theorem pe_bm0K (K : PySem.W.Frag) (h : X.K = K) (pa : PlainAttrs T) (slot : Slot T name id) (hty : typeOf (.builtin id) = pure (.type "method_descriptor")) (hm : MtR X id r) (ho : PE X o to)
    (hbase : attributeBase o name X.env (eval o X.env) = eval o X.env := by rfl) (hline : (apos.endLine == cpos.line) = true := by rfl) : PE X (.Call (.Attribute o name apos) [] [] cpos) (tBM0 K T r to) := h ▸ pe_bm0 pa slot hty hm ho hbase hline
theorem pe_bmK (K : PySem.W.Frag) (h : X.K = K) (pa : PlainAttrs T) (slot : Slot T name id) (hty : typeOf (.builtin id) = pure (.type "method_descriptor")) (hm : MtR X id r) (ho : PE X o to) (ha : PA X (e :: es) t)
    (hbase : attributeBase o name X.env (eval o X.env) = eval o X.env := by rfl)
    (hfew : ((backTo cpos (starEach (e :: es) X.env)).all (fun x => !x.1) && (backToKw cpos (keywordEach [] X.env)).all (fun x => x.1.isSome)
      && decide ((e :: es).length + ([] : List Keyword).length + (if ([] : List Keyword).isEmpty then 0 else 1) < 30)) = true := by rfl)
    (hline : (apos.endLine == cpos.line) = true := by rfl) (hs : starEach (e :: es) X.env = (false, eval e X.env) :: starEach es X.env := by rfl) (hplain : (backTo cpos (starEach es X.env)).any (·.1) = false := by rfl) :
    PE X (.Call (.Attribute o name apos) (e :: es) [] cpos) (tBM K T r to t) := h ▸ pe_bm pa slot hty hm ho ha hbase hfew hline hs hplain
theorem pe_revLK {k : Nat} {p1 p2 p3 : Pos} (K : PySem.W.Frag) (h : X.K = K) (he : PE X e te) : PE X (.Subscript e (.Slice none none (some (.UnaryOp .USub (.Constant (.int 1) k p1) p2)) p3) pos) (tRevL K te) := h ▸ pe_revL he
end
end KP
namespace KP
open PySem PySem.Spec PyProof.Rows L2
section
variable {σ : S2} {H : Hp} {t : TA} {i j l : Nat} {x y z : V} {nx : S2 → Hp → Prop} {rt : VK} {bk ct : S2 → Hp → Prop}
def par3 (i j l : Nat) (vs : List V) (σ : S2) (H : Hp) (q : S2 → Hp → Prop) : Prop := ∃ v w u, vs = [v, w, u] ∧ q (((σ.set i (some v)).set j (some w)).set l (some u)) H
theorem w_par3 (q : t σ H fun vs H1 => par3 i j l vs σ H1 nx) : tPar3 i j l t ⟨nx, rt, bk, ct⟩ σ H := q
theorem w_par3V {q : S2 → Hp → Prop} (h : q (((σ.set i (some x)).set j (some y)).set l (some z)) H) : par3 i j l [x, y, z] σ H q := ⟨x, y, z, rfl, h⟩
end
end KP
namespace KP
open PySem PySem.Spec PyProof.Rows L2
open PySem.W (Datum Tup)
section
variable {K : PySem.W.Frag} {H : Hp} {Q : VK} {v x y : V} {α : Type} [i1 : DecidableEq α] [i2 : Datum α] [i3 : TupD α] {xs ys : List α}
theorem Kp.hide {M N : List Addr} {H H1 H2 : Hp} (e : Kp M H H1) (f : Kp N H1 H2) (h : ∀ x ∈ N, x ∈ M ∨ H x = none) : Kp M H H2 := ⟨fun x o hx n => f.keep x o (e.keep x o hx n) fun m => (h x m).elim n fun z => (by rw [z] at hx; cases hx), fun x xs hx => f.tup x xs (e.tup x xs hx), fun x o u hx => f.frz x o u (e.frz x o u hx), fun x o hx => by
  obtain ⟨o', h'⟩ := e.dom x o hx
  exact f.dom x o' h'⟩
theorem Kp.hide1 {M : List Addr} {H H1 H2 : Hp} {p : Addr} (e : Kp M H H1) (f : Kp [p] H1 H2) (h : H p = none) : Kp M H H2 := e.hide f fun x m => .inr (by rw [List.mem_singleton.mp m]; exact h)
theorem Rng.upd {H : Hp} {a b p : Addr} {o : HO} (R : Rng H a b) (na : p ≠ a) (nb : p ≠ b) : Rng (upd H p o) a b := by
  obtain ⟨cs, s, r⟩ := R
  exact ⟨cs, s, by rw [upd_ne na.symm]; exact r.ha, by rw [upd_ne nb.symm]; exact r.hb, r.ne, r.len⟩
/-- the same while a comprehension's new list grows -/
theorem Rng.grow {H : Hp} {a b : Addr} (R0 : Rng H a b) : ∀ (H1 : Hp) (D : Addr) (o : HO), H D = none → Rng H1 a b → Rng (L2.upd H1 D o) a b := fun H1 D o hD R => R.upd (ne_free R0.da hD) (ne_free R0.db hD)
/-- a new instance, before its __init__ -/
theorem Kp.ins {M : List Addr} {H : Hp} {d dx C : Addr} {fs : List (Str × V)} (hd : H d = none) (hx : H dx = none) (ne : dx ≠ d) : Kp M H (upd (upd H dx (.own d)) d (.ins C dx fs)) := (Kp.new hx).trans (Kp.new (by rw [upd_ne (fun q => ne q.symm)]; exact hd))
/-- a part of a list, by the places of a slice -/
def cutD {β : Type} (xs : List β) (lo hi : Option Int) : List β := (xs.drop (HT.sIx xs.length 0 lo)).take (HT.sIx xs.length xs.length hi - HT.sIx xs.length 0 lo)
theorem cutD_lo {β : Type} (xs : List β) (k : Nat) : cutD xs (some (k : Int)) none = xs.drop k := by
  unfold cutD
  rw [HT.sIx_nat, HT.sIx_none]
  by_cases h : k ≤ xs.length
  · rw [Nat.min_eq_left h, List.take_of_length_le (by rw [List.length_drop]; omega)]
  · rw [Nat.min_eq_right (by omega), List.drop_of_length_le (Nat.le_refl _), List.drop_of_length_le (by omega), List.take_nil]
theorem cutD_hi {β : Type} (xs : List β) (k : Nat) : cutD xs none (some (k : Int)) = xs.take k := by
  unfold cutD
  rw [HT.sIx_nat, HT.sIx_none, List.drop_zero, Nat.sub_zero]
  by_cases h : k ≤ xs.length
  · rw [Nat.min_eq_left h]
  · rw [Nat.min_eq_right (by omega), List.take_of_length_le (Nat.le_refl _), List.take_of_length_le (by omega)]
theorem cutD_hii {β : Type} (xs : List β) (k : Int) : ∃ m : Nat, cutD xs none (some k) = xs.take m := ⟨_, by unfold cutD; rw [HT.sIx_none, List.drop_zero]⟩
theorem cutD_both {β : Type} (xs : List β) (k m : Nat) : cutD xs (some (k : Int)) (some (m : Int)) = (xs.drop k).take (m - k) := by
  unfold cutD
  rw [HT.sIx_nat, HT.sIx_nat]
  by_cases h : k ≤ xs.length
  · rw [Nat.min_eq_left h]
    by_cases h2 : m ≤ xs.length
    · rw [Nat.min_eq_left h2]
    · rw [Nat.min_eq_right (show xs.length ≤ m by omega), List.take_of_length_le (by rw [List.length_drop]; omega), List.take_of_length_le (by rw [List.length_drop]; omega)]
  · rw [Nat.min_eq_right (show xs.length ≤ k by omega), List.drop_of_length_le (Nat.le_refl _), List.drop_of_length_le (show xs.length ≤ k by omega), List.take_nil, List.take_nil]
theorem w_slD {lo hi : Option Int} (h : Is K H v (Tup.mk xs)) (q : ∀ (w : V) (H' : Hp), Kp [] H H' → Is K H' w (Tup.mk (cutD xs lo hi)) → Q w H') : rSlA K v lo hi H Q := by
  obtain ⟨a, vs, rfl, ha, hv⟩ := h.tupm
  have hl := hv.length
  have hc : IsAll K H (cutV vs lo hi) (cutD xs lo hi) := by
    unfold cutV cutD
    rw [hl]
    exact (hv.drop _).take _
  refine ⟨a, vs, rfl, ha, fun hw => ?_, fun _ p hp => q _ _ (Kp.new hp) (is_tup (SqT.of upd_same) (hc.kp (Kp.new (M := []) hp)))⟩
  refine q _ _ Kp.refl (is_tup ha ?_)
  have : cutD xs lo hi = xs := by
    unfold cutD
    rw [← hl, hw.1, hw.2, List.drop_zero, Nat.sub_zero, hl, List.take_length]
  rw [this]
  exact hv
theorem w_catD (h : Is K H x (Tup.mk xs)) (g : Is K H y (Tup.mk ys)) (e : xs.length + ys.length ≤ 1000000) (q : ∀ (w : V) (H' : Hp), Kp [] H H' → Is K H' w (Tup.mk (xs ++ ys)) → Q w H') : rCatA K x y H Q := by
  obtain ⟨a, vs, rfl, ha, hv⟩ := h.tupm
  obtain ⟨b, ws, rfl, hb, hw⟩ := g.tupm
  have l1 := hv.length
  have l2 := hw.length
  refine ⟨a, b, vs, ws, rfl, rfl, ha, hb, by rw [sizeLine_eq]; omega, fun e => ?_, fun _ e => ?_, fun _ _ p hp => ?_⟩
  · have : xs = [] := List.eq_nil_of_length_eq_zero (by rw [← l1, e]; rfl)
    subst this
    exact q _ _ Kp.refl g
  · have : ys = [] := List.eq_nil_of_length_eq_zero (by rw [← l2, e]; rfl)
    subst this
    exact q _ _ Kp.refl (by rw [List.append_nil]; exact h)
  · exact q _ _ (Kp.new hp) (is_tup (SqT.of upd_same) ((hv.append hw).kp (Kp.new (M := []) hp)))
theorem w_lenD (h : Is K H v (Tup.mk xs)) (q : Q (.int xs.length) H) : rLenQ K [v] H Q := by
  obtain ⟨a, vs, rfl, ha, hv⟩ := h.tupm
  refine w_lenT ha ?_
  rw [hv.length]
  exact q
theorem w_repD {z : Int} {k : Nat} (h : Is K H v (Tup.mk [z])) (h2 : 2 ≤ k) (h3 : k ≤ 100000) (q : ∀ (w : V) (H' : Hp), Kp [] H H' → Is K H' w (Tup.mk (List.replicate k z)) → Q w H') : rRepW K v (.int k) H Q := by
  obtain ⟨a, vs, rfl, ha, hv⟩ := h.tupm
  have := hv.ints
  subst this
  refine ⟨a, k, _, rfl, rfl, ha, by simp, by omega, by omega, by simp, fun p hp => q _ _ (Kp.new hp) (is_tup (SqT.of upd_same) ?_)⟩
  have : (List.replicate (k : Int).toNat ([z].map V.int)).flatten = (List.replicate k z).map V.int := by
    rw [Int.toNat_natCast]
    clear q h h2 h3 ha hv
    induction k with
    | zero => rfl
    | succ k ih => rw [List.replicate_succ, List.flatten_cons, ih, List.replicate_succ]; rfl
  rw [this]
  exact isAll_ints _
theorem w_tupD {vs : List V} {p : Addr} (h : H p = some (.lst vs)) (hv : IsAll K H vs xs) (q : ∀ (w : V) (H' : Hp), Kp [] H H' → Is K H' w (Tup.mk xs) → Q w H') : rTupQ K [.ref p] H Q :=
  w_tupL (SqL.of h) fun l hl => q _ _ (Kp.new hl) (is_tup (SqT.of upd_same) (hv.kp (Kp.new (M := []) hl)))
/-- a new tuple of typed things -/
theorem is_newT {vs : List V} {p : Addr} (hp : H p = none) (hv : IsAll K H vs xs) : Is K (upd H p (.tup vs)) (.ref p) (Tup.mk xs) := is_tup (SqT.of upd_same) (hv.kp (Kp.new (M := []) hp))
theorem w_eqS {s t : Str} (q : Q (.bl (decide (s = t))) H) : rEq (.str s) (.str t) H Q := w_rEq rfl (by
  have e : decide (V.str s = V.str t) = decide (s = t) := by simp
  rw [e]; exact q)
end
end KP
/-! The mathematics of the journal: events upon cells, records in a half. -/
namespace JM
abbrev Ev := Option (Nat × Int)
def ap1 (l : List Int) (e : Ev) : List Int := match e with
  | none => l
  | some p => l.set p.1 p.2
def ap (ns : List Int) (evs : List Ev) : List Int := evs.foldl ap1 ns
def puts : List Ev → List Nat
  | [] => []
  | none :: r => puts r
  | some p :: r => p.1 :: puts r
theorem ap_nil (ns : List Int) : ap ns [] = ns := rfl
theorem ap_cons (ns : List Int) (e : Ev) (r : List Ev) : ap ns (e :: r) = ap (ap1 ns e) r := rfl
theorem ap_append (ns : List Int) (a b : List Ev) : ap ns (a ++ b) = ap (ap ns a) b := by
  unfold ap; rw [List.foldl_append]
theorem ap1_length (ns : List Int) (e : Ev) : (ap1 ns e).length = ns.length := by
  cases e with
  | none => rfl
  | some p => simp [ap1]
theorem ap_length : ∀ (evs : List Ev) (ns : List Int), (ap ns evs).length = ns.length
  | [], _ => rfl
  | e :: r, ns => by rw [ap_cons, ap_length r, ap1_length]
theorem puts_append : ∀ (a b : List Ev), puts (a ++ b) = puts a ++ puts b
  | [], _ => rfl
  | none :: r, b => puts_append r b
  | some p :: r, b => by show p.1 :: puts (r ++ b) = _; rw [puts_append r b]; rfl
theorem ap_out : ∀ (evs : List Ev) (ns : List Int) (k : Nat), k ∉ puts evs → (ap ns evs)[k]? = ns[k]?
  | [], _, _, _ => rfl
  | none :: r, ns, k, h => ap_out r ns k h
  | some p :: r, ns, k, h => by
    have h1 : k ≠ p.1 := fun e => h (by rw [e]; exact List.mem_cons_self ..)
    have h2 : k ∉ puts r := fun m => h (List.mem_cons_of_mem _ m)
    rw [ap_cons, ap_out r _ k h2]
    show (ns.set p.1 p.2)[k]? = ns[k]?
    rw [List.getElem?_set_ne (fun e => h1 e.symm)]
theorem mem_puts : ∀ {evs : List Ev} {p : Nat × Int}, some p ∈ evs → p.1 ∈ puts evs
  | [], _, h => by cases h
  | none :: r, p, h => by
    rcases List.mem_cons.mp h with h' | h'
    · cases h'
    · exact mem_puts (evs := r) h'
  | some q :: r, p, h => by
    rcases List.mem_cons.mp h with h | h
    · cases h; exact List.mem_cons_self ..
    · exact List.mem_cons_of_mem _ (mem_puts (evs := r) h)
theorem ap_in : ∀ (evs : List Ev) (ns : List Int) (p : Nat × Int), (puts evs).Nodup → some p ∈ evs → p.1 < ns.length → (ap ns evs)[p.1]? = some p.2
  | [], _, _, _, h, _ => by cases h
  | none :: r, ns, p, hn, h, hl => by
    rcases List.mem_cons.mp h with h' | h'
    · cases h'
    · exact ap_in r ns p hn h' hl
  | some q :: r, ns, p, hn, h, hl => by
    have hn' := List.nodup_cons.mp hn
    rw [ap_cons]
    rcases List.mem_cons.mp h with h' | h'
    · have e : p = q := Option.some.inj h'
      subst e
      rw [ap_out r _ _ hn'.1]
      show (ns.set p.1 p.2)[p.1]? = _
      rw [List.getElem?_set_self hl]
    · refine ap_in r _ p hn'.2 h' ?_
      rw [ap1_length]; exact hl
/-! ### records -/
def bodyE : Nat → List Int → List Ev
  | _, [] => []
  | k, o :: r => some (k, o) :: bodyE (k + 1) r
theorem bodyE_snoc : ∀ (xs : List Int) (k : Nat) (y : Int), bodyE k (xs ++ [y]) = bodyE k xs ++ [some (k + xs.length, y)]
  | [], k, y => rfl
  | x :: xs, k, y => by
    show some (k, x) :: bodyE (k + 1) (xs ++ [y]) = _
    rw [bodyE_snoc xs (k + 1) y]
    show _ = some (k, x) :: (bodyE (k + 1) xs ++ [some (k + (xs.length + 1), y)])
    rw [show k + 1 + xs.length = k + (xs.length + 1) by omega]
theorem puts_bodyE : ∀ (xs : List Int) (k : Nat), puts (bodyE k xs) = List.range' k xs.length
  | [], k => rfl
  | x :: xs, k => by
    show k :: puts (bodyE (k + 1) xs) = List.range' k (xs.length + 1)
    rw [puts_bodyE xs (k + 1), List.range'_succ]
theorem bodyE_mem : ∀ (xs : List Int) (k i : Nat) (y : Int), xs[i]? = some y → some (k + i, y) ∈ bodyE k xs
  | [], _, _, _, h => by simp at h
  | x :: xs, k, 0, y, h => by
    have : x = y := by simpa using h
    subst this
    exact List.mem_cons_self ..
  | x :: xs, k, i + 1, y, h => by
    have := bodyE_mem xs (k + 1) i y (by simpa using h)
    rw [show k + 1 + i = k + (i + 1) by omega] at this
    exact List.mem_cons_of_mem _ this
def recE (k : Nat) (r : List Int) : List Ev := [some (k + 1, ((r.length / 256 : Nat) : Int)), some (k + 2, ((r.length % 256 : Nat) : Int))] ++ bodyE (k + 3) r
def endE (k stop : Nat) : List Ev := if k < stop then [some (k, 0)] else []
theorem puts_recE (k : Nat) (r : List Int) : puts (recE k r) = List.range' (k + 1) (2 + r.length) := by
  unfold recE
  rw [puts_append, puts_bodyE]
  show (k + 1) :: (k + 2) :: List.range' (k + 3) r.length = _
  rw [show 2 + r.length = r.length + 1 + 1 by omega, List.range'_succ, List.range'_succ]
inductive Enc (now : List Int) (stop : Nat) : Nat → List (List Int) → Nat → Prop
  | fin {k : Nat} (h : k ≤ stop) (h0 : k < stop → now[k]? = some 0) : Enc now stop k [] k
  | one {k fin : Nat} {m : Int} {r : List Int} {rs : List (List Int)} (hm : now[k]? = some m) (h0 : 0 < m) (h1 : now[k + 1]? = some ((r.length / 256 : Nat) : Int)) (h2 : now[k + 2]? = some ((r.length % 256 : Nat) : Int))
      (hr : ∀ i y, r[i]? = some y → now[k + 3 + i]? = some y) (hb : k + 3 + r.length ≤ stop) (t : Enc now stop (k + 3 + r.length) rs fin) : Enc now stop k (r :: rs) fin
theorem Enc.le {now : List Int} {stop k fin : Nat} {rs : List (List Int)} (h : Enc now stop k rs fin) : k ≤ fin ∧ fin ≤ stop := by
  induction h with
  | fin h => exact ⟨Nat.le_refl _, h⟩
  | one _ _ _ _ _ _ _ ih => omega
theorem Enc.end0 {now : List Int} {stop k fin : Nat} {rs : List (List Int)} (h : Enc now stop k rs fin) : fin < stop → now[fin]? = some 0 := by
  induction h with
  | fin _ h0 => exact h0
  | one _ _ _ _ _ _ _ ih => exact ih
theorem Enc.ext {now now' : List Int} {stop k fin fin' : Nat} {rs qs : List (List Int)} (h : Enc now stop k rs fin) : (∀ i, k ≤ i → i < fin → now'[i]? = now[i]?) → Enc now' stop fin qs fin' → Enc now' stop k (rs ++ qs) fin' := by
  induction h with
  | fin h h0 => exact fun _ g => g
  | @one k fin m r rs hm h0 h1 h2 hr hb t ih =>
    intro ag g
    have hl := t.le
    refine .one (m := m) ((ag _ (by omega) (by omega)).trans hm) h0 ((ag _ (by omega) (by omega)).trans h1) ((ag _ (by omega) (by omega)).trans h2) (fun i y hy => ?_) hb (ih (fun i h h' => ag i (by omega) h') g)
    have hi : i < r.length := (List.getElem?_eq_some_iff.mp hy).1
    exact (ag _ (by omega) (by omega)).trans (hr i y hy)
theorem Enc.same {now now' : List Int} {stop k fin : Nat} {rs : List (List Int)} (h : Enc now stop k rs fin) (ag : ∀ i, k ≤ i → i < stop → i ≤ fin → now'[i]? = now[i]?) : Enc now' stop k rs fin := by
  have hl := h.le
  have := h.ext (now' := now') (qs := []) (fin' := fin) (fun i a b => ag i a (by omega) (by omega)) (.fin hl.2 fun hf => (ag _ hl.1 hf (Nat.le_refl _)).trans (h.end0 hf))
  rwa [List.append_nil] at this
theorem Enc.count {now : List Int} {stop k fin : Nat} {rs : List (List Int)} (h : Enc now stop k rs fin) : k + 3 * rs.length ≤ stop := by
  induction h with
  | fin h => simpa using h
  | one _ _ _ _ _ _ _ ih => rw [List.length_cons]; omega
theorem needs_int : ∀ rs : List (List Int), (rs.map fun r => ((3 + r.length : Nat) : Int)).sum = (((rs.map fun r => 3 + r.length).sum : Nat) : Int)
  | [] => rfl
  | r :: rs => by rw [List.map_cons, List.sum_cons, needs_int rs, List.map_cons, List.sum_cons]; omega
def need (r : List Int) : Nat := 3 + r.length
def needs (rs : List (List Int)) : Nat := (rs.map need).sum
/-- one record from the words laid in front of it -/
theorem enc_one {now : List Int} {stop k : Nat} {m : Int} {r : List Int} (hm : now[k]? = some m) (h0 : 0 < m) (hrec : ∀ p, some p ∈ recE k r → now[p.1]? = some p.2) (hb : k + 3 + r.length ≤ stop) (he : k + 3 + r.length < stop → now[k + 3 + r.length]? = some 0) : Enc now stop k [r] (k + 3 + r.length) := by
  refine .one (m := m) hm h0 (hrec (k + 1, _) (by simp [recE])) (hrec (k + 2, _) (by simp [recE])) (fun i y hy => ?_) hb (.fin hb he)
  exact hrec (k + 3 + i, y) (by unfold recE; exact List.mem_append_right _ (bodyE_mem _ _ _ _ hy))
/-! ### write -/
def wPre (fin stop : Nat) (r : List Int) : List Ev := recE fin r ++ endE (fin + 3 + r.length) stop
def wE (fin stop : Nat) (r : List Int) : List Ev := wPre fin stop r ++ [none, some (fin, 1), none]
theorem puts_endE (k stop i : Nat) (h : i ∈ puts (endE k stop)) : i = k ∧ k < stop := by
  unfold endE at h
  by_cases c : k < stop
  · rw [if_pos c] at h
    have h' : i ∈ [k] := h
    simp at h'
    exact ⟨h', c⟩
  · rw [if_neg c] at h
    cases h
theorem puts_wPre {fin stop i : Nat} {r : List Int} (h : i ∈ puts (wPre fin stop r)) : fin < i ∧ i ≤ fin + 3 + r.length ∧ (fin + 3 + r.length ≤ stop → i < stop ∨ i < fin + 3 + r.length) := by
  unfold wPre at h
  rw [puts_append, List.mem_append] at h
  rcases h with h | h
  · rw [puts_recE, List.mem_range'_1] at h
    omega
  · obtain ⟨e, c⟩ := puts_endE _ _ _ h
    omega
theorem nodup_wPre (fin stop : Nat) (r : List Int) : (puts (wPre fin stop r)).Nodup := by
  unfold wPre
  rw [puts_append, puts_recE, List.nodup_append]
  refine ⟨List.nodup_range', ?_, fun a ha b hb e => ?_⟩
  · unfold endE
    split
    · show [fin + 3 + r.length].Nodup; simp
    · exact List.nodup_nil
  · subst e
    obtain ⟨e, _⟩ := puts_endE _ _ _ hb
    rw [List.mem_range'_1] at ha
    omega
theorem nodup_wE (fin stop : Nat) (r : List Int) : (puts (wE fin stop r)).Nodup := by
  unfold wE
  rw [puts_append]
  show (puts (wPre fin stop r) ++ [fin]).Nodup
  rw [List.nodup_append]
  refine ⟨nodup_wPre _ _ _, by simp, fun a ha b hb e => ?_⟩
  subst e
  have := puts_wPre ha
  have e : a = fin := by simpa using hb
  omega
theorem enc_write {now now' : List Int} {stop k fin : Nat} {rs : List (List Int)} {r : List Int} {m : Int} (h : Enc now stop k rs fin) (hb : fin + 3 + r.length ≤ stop) (hm : now'[fin]? = some m) (m0 : 0 < m)
    (hin : ∀ p, some p ∈ wPre fin stop r → now'[p.1]? = some p.2) (ag : ∀ i, i < fin → now'[i]? = now[i]?) : Enc now' stop k (rs ++ [r]) (fin + 3 + r.length) := by
  refine h.ext (fun i _ hi => ag i hi) (enc_one hm m0 (fun p hp => hin p (List.mem_append_left _ hp)) hb fun hs => ?_)
  refine hin (fin + 3 + r.length, 0) (List.mem_append_right _ ?_)
  unfold endE
  rw [if_pos hs]
  exact List.mem_cons_self ..
/-! ### renew -/
def recsE : Nat → List (List Int) → List Ev
  | _, [] => []
  | k, r :: rs => some (k, 1) :: recE k r ++ recsE (k + 3 + r.length) rs
theorem needs_cons (r : List Int) (rs : List (List Int)) : needs (r :: rs) = 3 + r.length + needs rs := rfl
theorem puts_recsE : ∀ (rs : List (List Int)) (k : Nat), puts (recsE k rs) = List.range' k (needs rs)
  | [], k => rfl
  | r :: rs, k => by
    show puts ((some (k, 1) :: recE k r) ++ recsE (k + 3 + r.length) rs) = _
    rw [puts_append, puts_recsE rs]
    show k :: puts (recE k r) ++ List.range' (k + 3 + r.length) (needs rs) = _
    have e1 : List.range' k (3 + r.length) = k :: List.range' (k + 1) (2 + r.length) := by
      rw [show 3 + r.length = 2 + r.length + 1 by omega, List.range'_succ]
    rw [puts_recE, needs_cons, ← e1, show k + 3 + r.length = k + (3 + r.length) by omega, List.range'_append_1]
theorem recsE_append : ∀ (as bs : List (List Int)) (k : Nat), recsE k (as ++ bs) = recsE k as ++ recsE (k + needs as) bs
  | [], bs, k => by simp [recsE, needs]
  | a :: as, bs, k => by
    show some (k, 1) :: recE k a ++ recsE (k + 3 + a.length) (as ++ bs) = (some (k, 1) :: recE k a ++ recsE (k + 3 + a.length) as) ++ _
    rw [recsE_append as bs, needs_cons, List.append_assoc, show k + 3 + a.length + needs as = k + (3 + a.length + needs as) by omega]
theorem needs_snoc (as : List (List Int)) (b : List Int) : needs (as ++ [b]) = needs as + (3 + b.length) := by
  unfold needs
  rw [List.map_append, List.sum_append]
  simp [need]
theorem recsE_snoc (as : List (List Int)) (b : List Int) (k : Nat) : recsE k (as ++ [b]) = recsE k as ++ [some (k + needs as, 1)] ++ recE (k + needs as) b := by
  rw [recsE_append]
  simp [recsE]
theorem bodyE_len : ∀ (xs : List Int) (k : Nat), (bodyE k xs).length = xs.length
  | [], _ => rfl
  | x :: xs, k => by show (bodyE (k + 1) xs).length + 1 = _; rw [bodyE_len xs]; rfl
theorem recE_len (k : Nat) (r : List Int) : (recE k r).length = r.length + 2 := by
  unfold recE
  rw [List.length_append, bodyE_len]
  simp
  omega
theorem recsE_len : ∀ (rs : List (List Int)) (k : Nat), (recsE k rs).length = needs rs
  | [], _ => rfl
  | r :: rs, k => by
    show ((some (k, 1) :: recE k r) ++ recsE (k + 3 + r.length) rs).length = _
    rw [List.length_append, recsE_len rs, List.length_cons, recE_len, needs_cons]
    omega
theorem needs_take (rs : List (List Int)) (i : Nat) : needs (rs.take i) ≤ needs rs := by
  have h : needs rs = needs (rs.take i) + needs (rs.drop i) := by
    conv => lhs; rw [← List.take_append_drop i rs]
    unfold needs
    rw [List.map_append, List.sum_append]
  omega
def rPre (k stop : Nat) (rs : List (List Int)) : List Ev := recsE k rs ++ endE (k + needs rs) stop
def rE (k stop : Nat) (side : Nat) (rs : List (List Int)) : List Ev := rPre k stop rs ++ [none, some (0, (side : Int)), none]
theorem puts_rPre {k stop i : Nat} {rs : List (List Int)} (h : i ∈ puts (rPre k stop rs)) (hb : k + needs rs ≤ stop) : k ≤ i ∧ i < stop := by
  unfold rPre at h
  rw [puts_append, List.mem_append] at h
  rcases h with h | h
  · rw [puts_recsE, List.mem_range'_1] at h
    omega
  · obtain ⟨e, c⟩ := puts_endE _ _ _ h
    omega
theorem nodup_rPre (k stop : Nat) (rs : List (List Int)) : (puts (rPre k stop rs)).Nodup := by
  unfold rPre
  rw [puts_append, puts_recsE, List.nodup_append]
  refine ⟨List.nodup_range', ?_, fun a ha b hb e => ?_⟩
  · unfold endE
    split
    · show [k + needs rs].Nodup; simp
    · exact List.nodup_nil
  · subst e
    obtain ⟨e, _⟩ := puts_endE _ _ _ hb
    rw [List.mem_range'_1] at ha
    omega
theorem nodup_rE {k stop side : Nat} {rs : List (List Int)} (h0 : 0 < k) (hb : k + needs rs ≤ stop) : (puts (rE k stop side rs)).Nodup := by
  unfold rE
  rw [puts_append]
  show (puts (rPre k stop rs) ++ [0]).Nodup
  rw [List.nodup_append]
  refine ⟨nodup_rPre _ _ _, by simp, fun a ha b hb' e => ?_⟩
  subst e
  have := puts_rPre ha hb
  have e : a = 0 := by simpa using hb'
  omega
theorem enc_recs {now : List Int} {stop : Nat} : ∀ (rs : List (List Int)) (k : Nat), k + needs rs ≤ stop → (∀ p, some p ∈ recsE k rs → now[p.1]? = some p.2) → (k + needs rs < stop → now[k + needs rs]? = some 0) → Enc now stop k rs (k + needs rs)
  | [], k, hb, _, he => .fin hb he
  | r :: rs, k, hb, hin, he => by
    rw [needs_cons] at hb he
    have e : k + (3 + r.length + needs rs) = k + 3 + r.length + needs rs := by omega
    rw [needs_cons, e]
    rw [e] at he
    have hrec : ∀ p, some p ∈ recE k r → now[p.1]? = some p.2 := fun p hp => hin p (List.mem_append_left _ (List.mem_cons_of_mem _ hp))
    refine .one (m := 1) (hin (k, 1) (List.mem_append_left _ (List.mem_cons_self ..))) (by decide) (hrec (k + 1, _) (by simp [recE])) (hrec (k + 2, _) (by simp [recE])) (fun i y hy => ?_) (by omega) (enc_recs rs _ (by omega) (fun p hp => hin p (List.mem_append_right _ hp)) he)
    exact hrec (k + 3 + i, y) (by unfold recE; exact List.mem_append_right _ (bodyE_mem _ _ _ _ hy))
theorem enc_renew {now : List Int} {k stop : Nat} {rs : List (List Int)} (hb : k + needs rs ≤ stop) (hin : ∀ p, some p ∈ rPre k stop rs → now[p.1]? = some p.2) : Enc now stop k rs (k + needs rs) := by
  refine enc_recs rs k hb (fun p hp => hin p (List.mem_append_left _ hp)) fun hs => ?_
  refine hin (k + needs rs, 0) (List.mem_append_right _ ?_)
  unfold endE
  rw [if_pos hs]
  exact List.mem_cons_self ..
/-! ### pending places -/
def pend1 (p : List Nat) (e : Ev) : List Nat := match e with
  | none => []
  | some q => p ++ [q.1]
def pend (evs : List Ev) : List Nat := evs.foldl pend1 []
theorem pend_snoc (evs : List Ev) (e : Ev) : pend (evs ++ [e]) = pend1 (pend evs) e := by
  unfold pend
  rw [List.foldl_append]
  rfl
theorem pend_sub : ∀ (evs : List Ev) (p : List Nat) (i : Nat), i ∈ evs.foldl pend1 p → i ∈ p ∨ i ∈ puts evs
  | [], p, i, h => .inl h
  | none :: r, p, i, h => by
    rcases pend_sub r [] i h with h | h
    · cases h
    · exact .inr h
  | some q :: r, p, i, h => by
    rcases pend_sub r (p ++ [q.1]) i h with h | h
    · rcases List.mem_append.mp h with h | h
      · exact .inl h
      · have e : i = q.1 := by simpa using h
        rw [e]
        exact .inr (List.mem_cons_self ..)
    · exact .inr (List.mem_cons_of_mem _ h)
theorem pend_puts {evs : List Ev} {i : Nat} (h : i ∈ pend evs) : i ∈ puts evs := by
  rcases pend_sub evs [] i h with h | h
  · cases h
  · exact h
/-- what a cut may leave -/
structure Left (base : List Int) (evs : List Ev) (out : List Int) : Prop where
  len : out.length = base.length
  oct : ∀ (i : Nat) (y : Int), out[i]? = some y → 0 ≤ y ∧ y < 256
  out : ∀ (i : Nat), i ∉ pend evs → out[i]? = (ap base evs)[i]?
def half (n s : Nat) : Nat := 1 + s * ((n - 1) / 2)
/-- what a journal upon cells finds -/
theorem endE_len (k stop : Nat) : (endE k stop).length ≤ 1 := by unfold endE; split <;> simp
def Has (now : List Int) (rs : List (List Int)) : Prop := ∃ (o : Int) (fin : Nat), now[0]? = some o ∧ 0 ≤ o ∧ Enc now (half now.length ((o % 2).toNat + 1)) (half now.length (o % 2).toNat) rs fin
theorem half_le {n s : Nat} (hs : s ≤ 2) (hn : 1 ≤ n) : half n s ≤ n := by
  unfold half
  have h1 : s * ((n - 1) / 2) ≤ 2 * ((n - 1) / 2) := Nat.mul_le_mul_right _ hs
  omega
theorem half_succ (n s : Nat) : half n (s + 1) = half n s + (n - 1) / 2 := by
  unfold half
  rw [Nat.succ_mul]
  omega
theorem half_pos (n s : Nat) : 0 < half n s := by unfold half; omega
theorem has_of {now : List Int} {rs : List (List Int)} {fin n s : Nat} {o : Int} (hn : now.length = n) (h : now[0]? = some o) (h0 : 0 ≤ o) (hs : (o % 2).toNat = s) (e : Enc now (half n (s + 1)) (half n s) rs fin) : Has now rs := by
  subst hs hn
  exact ⟨o, fin, h, h0, e⟩
/-- a renewed half -/
theorem has_renew {now : List Int} {rs : List (List Int)} {n s : Nat} (hn : now.length = n) (n1 : 1 ≤ n) (hs : s ≤ 1) (hb : half n s + needs rs ≤ half n (s + 1)) : Has (ap now (rE (half n s) (half n (s + 1)) s rs)) rs ∧
    Enc (ap now (rE (half n s) (half n (s + 1)) s rs)) (half n (s + 1)) (half n s) rs (half n s + needs rs) ∧ (ap now (rE (half n s) (half n (s + 1)) s rs))[0]? = some (s : Int) := by
  have hnd := nodup_rE (side := s) (half_pos n s) hb
  have hle : half n (s + 1) ≤ n := half_le (by omega) n1
  have h0 : (ap now (rE (half n s) (half n (s + 1)) s rs))[0]? = some (s : Int) := ap_in _ now (0, (s : Int)) hnd (by unfold rE; simp) (by show 0 < now.length; omega)
  have he : Enc (ap now (rE (half n s) (half n (s + 1)) s rs)) (half n (s + 1)) (half n s) rs (half n s + needs rs) := by
    refine enc_renew hb fun p hp => ap_in _ now p hnd (List.mem_append_left _ hp) ?_
    have := puts_rPre (mem_puts hp) hb
    omega
  refine ⟨has_of (by rw [ap_length]; exact hn) h0 (by omega) (by omega) he, he, h0⟩
theorem take_pre {α : Type} (P S : List α) (m : Nat) : (P ++ S).take m = P.take m ∨ ∃ k, (P ++ S).take m = P ++ S.take k := by
  rw [List.take_append]
  by_cases h : m ≤ P.length
  · left
    rw [Nat.sub_eq_zero_of_le h, List.take_zero, List.append_nil]
  · right
    exact ⟨m - P.length, by rw [List.take_of_length_le (by omega)]⟩
theorem take3 {α : Type} (x y z : α) (k : Nat) : [x, y, z].take k = [] ∨ [x, y, z].take k = [x] ∨ [x, y, z].take k = [x, y] ∨ [x, y, z].take k = [x, y, z] := by
  match k with
  | 0 => simp
  | 1 => simp
  | 2 => simp
  | k + 3 => simp
theorem pend_app2 (P : List Ev) (q : Nat × Int) : pend (P ++ [none, some q]) = [q.1] := by
  have : P ++ [none, some q] = (P ++ [none]) ++ [some q] := by simp
  rw [this, pend_snoc, pend_snoc]
  rfl
theorem pend_app1 (P : List Ev) : pend (P ++ [none]) = [] := by rw [pend_snoc]; rfl
theorem pend_app3 (P : List Ev) (e f : Ev) : pend (P ++ [e, f, none]) = [] := by
  have : P ++ [e, f, none] = (P ++ [e, f]) ++ [none] := by simp
  rw [this, pend_snoc]; rfl
theorem puts_take {P : List Ev} {m i : Nat} (h : i ∈ puts (P.take m)) : i ∈ puts P := by
  have := puts_append (P.take m) (P.drop m)
  rw [List.take_append_drop] at this
  rw [this]
  exact List.mem_append_left _ h
/-- a cut before the last put: where P puts nothing, all is as it was -/
theorem left_early {base out : List Int} {P E : List Ev} (h : Left base E out) (hE : (∃ m, E = P.take m) ∨ E = P ++ [none]) {i : Nat} (hi : i ∉ puts P) : out[i]? = base[i]? := by
  rcases hE with ⟨m, rfl⟩ | rfl
  · have h1 : i ∉ puts (P.take m) := fun hm => hi (puts_take hm)
    rw [h.out i (fun hp => h1 (pend_puts hp)), ap_out _ _ _ h1]
  · have h1 : i ∉ puts (P ++ [none]) := by rw [puts_append]; simpa [puts] using hi
    rw [h.out i (by rw [pend_app1]; simp), ap_out _ _ _ h1]
theorem get_some {α : Type} {l : List α} {i : Nat} (h : i < l.length) : ∃ y, l[i]? = some y := ⟨l[i], by simp [h]⟩
theorem cut_write {base out : List Int} {n fin : Nat} {rs : List (List Int)} {r : List Int} {m : Nat} (hn : base.length = n) (n1 : 1 ≤ n) (b0 : base[0]? = some 1) (he : Enc base (half n 2) (half n 1) rs fin) (hb : fin + 3 + r.length ≤ half n 2)
    (h : Left base ((wE fin (half n 2) r).take m) out) : (Has out rs ∨ Has out (rs ++ [r])) ∧ ((wE fin (half n 2) r).take m = wE fin (half n 2) r → Has out (rs ++ [r])) := by
  have hle := he.le
  have h2 : half n 2 ≤ n := half_le (by omega) n1
  have hp1 := half_pos n 1
  have hlen : out.length = n := h.len.trans hn
  have p0 : ∀ i, i ≤ fin → i ∉ puts (wPre fin (half n 2) r) := fun i hi hm => by have := puts_wPre hm; omega
  -- before the mark
  have early : ((∃ k, (wE fin (half n 2) r).take m = (wPre fin (half n 2) r).take k) ∨ (wE fin (half n 2) r).take m = wPre fin (half n 2) r ++ [none]) → Has out rs := fun hE => by
    have ag : ∀ i, i ≤ fin → out[i]? = base[i]? := fun i hi => left_early h hE (p0 i hi)
    exact has_of hlen ((ag 0 (by omega)).trans b0) (by decide) (by decide) (he.same fun i _ _ hi => ag i hi)
  -- from the mark on
  have late : ∀ (x : Int), out[fin]? = some x → 0 < x → (∀ i, i ≠ fin → out[i]? = (ap base (wE fin (half n 2) r))[i]?) → Has out (rs ++ [r]) := fun x hx x0 hag => by
    have nf : ∀ i, i < fin → i ∉ puts (wE fin (half n 2) r) := fun i hi hm => by
      unfold wE at hm
      rw [puts_append, List.mem_append] at hm
      rcases hm with hm | hm
      · exact p0 i (by omega) hm
      · have : i = fin := by simpa [puts] using hm
        omega
    refine has_of hlen (((hag 0 (by omega)).trans (ap_out _ _ _ (nf 0 (by omega)))).trans b0) (by decide) (by decide) (enc_write he hb hx x0 (fun p hp => ?_) fun i hi => (hag i (by omega)).trans (ap_out _ _ _ (nf i hi)))
    have hp : some p ∈ wPre fin (half n 2) r := hp
    have hpm := puts_wPre (mem_puts hp)
    rw [hag p.1 (by omega)]
    refine ap_in _ base p (nodup_wE _ _ _) (List.mem_append_left _ hp) ?_
    have := hpm.2.2 hb
    omega
  have full : (wE fin (half n 2) r).take m = wE fin (half n 2) r → Has out (rs ++ [r]) := fun e => by
    have hpe : pend ((wE fin (half n 2) r).take m) = [] := by rw [e]; exact pend_app3 _ _ _
    have ag : ∀ i, out[i]? = (ap base (wE fin (half n 2) r))[i]? := fun i => by
      have := h.out i (by rw [hpe]; simp)
      rw [e] at this
      exact this
    refine late 1 ?_ (by decide) fun i _ => ag i
    rw [ag fin]
    exact ap_in _ base (fin, 1) (nodup_wE _ _ _) (by unfold wE; simp) (by show fin < base.length; omega)
  refine ⟨?_, full⟩
  rcases take_pre (wPre fin (half n 2) r) [none, some (fin, (1 : Int)), none] m with e | ⟨k, e⟩
  · exact .inl (early (.inl ⟨m, e⟩))
  · rcases take3 (none : Ev) (some (fin, (1 : Int))) none k with e3 | e3 | e3 | e3
    · rw [e3] at e
      exact .inl (early (.inl ⟨(wPre fin (half n 2) r).length, by rw [List.take_length]; simpa [wE] using e⟩))
    · rw [e3] at e
      exact .inl (early (.inr e))
    · rw [e3] at e
      have e : (wE fin (half n 2) r).take m = wPre fin (half n 2) r ++ [none, some (fin, 1)] := e
      have hpe : pend ((wE fin (half n 2) r).take m) = [fin] := by rw [e]; exact pend_app2 _ _
      have ag : ∀ i, i ≠ fin → out[i]? = (ap base (wE fin (half n 2) r))[i]? := fun i hi => by
        have := h.out i (by rw [hpe]; simpa using hi)
        rw [e, ap_append] at this
        unfold wE
        rw [ap_append]
        exact this
      obtain ⟨x, hx⟩ := get_some (l := out) (i := fin) (by omega)
      have hxo := h.oct fin x hx
      by_cases x0 : x = 0
      · left
        have nf : ∀ i, i < fin → i ∉ puts (wE fin (half n 2) r) := fun i hi hm => by
          unfold wE at hm
          rw [puts_append, List.mem_append] at hm
          rcases hm with hm | hm
          · exact p0 i (by omega) hm
          · have : i = fin := by simpa [puts] using hm
            omega
        have ag2 : ∀ i, i < fin → out[i]? = base[i]? := fun i hi => (ag i (by omega)).trans (ap_out _ _ _ (nf i hi))
        have := he.ext (now' := out) (qs := []) (fin' := fin) (fun i _ hi => ag2 i hi) (.fin hle.2 fun _ => by rw [hx, x0])
        rw [List.append_nil] at this
        exact has_of hlen ((ag2 0 (by omega)).trans b0) (by decide) (by decide) this
      · exact .inr (late x hx (by omega) ag)
    · rw [e3] at e
      exact .inr (full e)
theorem cut_renew {base out : List Int} {n fin : Nat} {rs qs : List (List Int)} {m : Nat} (hn : base.length = n) (n1 : 1 ≤ n) (b0 : base[0]? = some 1) (he : Enc base (half n 2) (half n 1) rs fin) (hb : half n 0 + needs qs ≤ half n 1)
    (h : Left base ((rE (half n 0) (half n 1) 0 qs).take m) out) : (Has out rs ∨ Has out qs) ∧ ((rE (half n 0) (half n 1) 0 qs).take m = rE (half n 0) (half n 1) 0 qs → Has out qs) := by
  have hle := he.le
  have h1 : half n 1 ≤ n := half_le (by omega) n1
  have hp1 := half_pos n 1
  have hp0 := half_pos n 0
  have hlen : out.length = n := h.len.trans hn
  have p0 : ∀ i, i = 0 ∨ half n 1 ≤ i → i ∉ puts (rPre (half n 0) (half n 1) qs) := fun i hi hm => by have := puts_rPre hm hb; omega
  have early : ((∃ k, (rE (half n 0) (half n 1) 0 qs).take m = (rPre (half n 0) (half n 1) qs).take k) ∨ (rE (half n 0) (half n 1) 0 qs).take m = rPre (half n 0) (half n 1) qs ++ [none]) → Has out rs := fun hE => by
    have ag : ∀ i, i = 0 ∨ half n 1 ≤ i → out[i]? = base[i]? := fun i hi => left_early h hE (p0 i hi)
    exact has_of hlen ((ag 0 (.inl rfl)).trans b0) (by decide) (by decide) (he.same fun i hi _ _ => ag i (.inr hi))
  have late : ∀ (x : Int), out[0]? = some x → 0 ≤ x → (∀ i, i ≠ 0 → out[i]? = (ap base (rE (half n 0) (half n 1) 0 qs))[i]?) → (x % 2 = 0 → Has out qs) ∧ (x % 2 = 1 → Has out rs) := fun x hx x0 hag => by
    have nf : ∀ i, half n 1 ≤ i → i ∉ puts (rE (half n 0) (half n 1) 0 qs) := fun i hi hm => by
      unfold rE at hm
      rw [puts_append, List.mem_append] at hm
      rcases hm with hm | hm
      · exact p0 i (.inr hi) hm
      · have : i = 0 := by simpa [puts] using hm
        omega
    refine ⟨fun x2 => ?_, fun x2 => ?_⟩
    · refine has_of (s := 0) hlen hx x0 (by omega) (enc_renew hb fun p hp => ?_)
      have hp : some p ∈ rPre (half n 0) (half n 1) qs := hp
      have hpm := puts_rPre (mem_puts hp) hb
      rw [hag p.1 (by omega)]
      exact ap_in _ base p (nodup_rE hp0 hb) (List.mem_append_left _ hp) (by omega)
    · exact has_of (s := 1) hlen hx x0 (by omega) (he.same fun i hi _ _ => (hag i (by omega)).trans (ap_out _ _ _ (nf i hi)))
  have full : (rE (half n 0) (half n 1) 0 qs).take m = rE (half n 0) (half n 1) 0 qs → Has out qs := fun e => by
    have hpe : pend ((rE (half n 0) (half n 1) 0 qs).take m) = [] := by rw [e]; exact pend_app3 _ _ _
    have ag : ∀ i, out[i]? = (ap base (rE (half n 0) (half n 1) 0 qs))[i]? := fun i => by
      have := h.out i (by rw [hpe]; simp)
      rw [e] at this
      exact this
    refine (late 0 ?_ (by decide) fun i _ => ag i).1 rfl
    rw [ag 0]
    exact ap_in _ base (0, 0) (nodup_rE hp0 hb) (by unfold rE; simp) (by show 0 < base.length; omega)
  refine ⟨?_, full⟩
  rcases take_pre (rPre (half n 0) (half n 1) qs) [none, some (0, ((0 : Nat) : Int)), none] m with e | ⟨k, e⟩
  · exact .inl (early (.inl ⟨m, e⟩))
  · rcases take3 (none : Ev) (some (0, ((0 : Nat) : Int))) none k with e3 | e3 | e3 | e3
    · rw [e3] at e
      exact .inl (early (.inl ⟨(rPre (half n 0) (half n 1) qs).length, by rw [List.take_length]; simpa [rE] using e⟩))
    · rw [e3] at e
      exact .inl (early (.inr e))
    · rw [e3] at e
      have e : (rE (half n 0) (half n 1) 0 qs).take m = rPre (half n 0) (half n 1) qs ++ [none, some (0, ((0 : Nat) : Int))] := e
      have hpe : pend ((rE (half n 0) (half n 1) 0 qs).take m) = [0] := by rw [e]; exact pend_app2 _ _
      have ag : ∀ i, i ≠ 0 → out[i]? = (ap base (rE (half n 0) (half n 1) 0 qs))[i]? := fun i hi => by
        have := h.out i (by rw [hpe]; simpa using hi)
        rw [e, ap_append] at this
        unfold rE
        rw [ap_append]
        exact this
      obtain ⟨x, hx⟩ := get_some (l := out) (i := 0) (by omega)
      have hxo := h.oct 0 x hx
      have hl := late x hx hxo.1 ag
      by_cases x2 : x % 2 = 0
      · exact .inr (hl.1 x2)
      · exact .inl (hl.2 (by omega))
    · rw [e3] at e
      exact .inr (full e)
/-! ### what the events put: octets, in their places -/
def Oks (lo hi : Nat) (evs : List Ev) : Prop := ∀ (i : Nat) (o : Int), some (i, o) ∈ evs → lo ≤ i ∧ i < hi ∧ 0 ≤ o ∧ o < 256
theorem Oks.append {lo hi : Nat} {a b : List Ev} (h : Oks lo hi a) (g : Oks lo hi b) : Oks lo hi (a ++ b) := fun i o m => (List.mem_append.mp m).elim (h i o) (g i o)
theorem Oks.mono {lo hi lo' hi' : Nat} {a : List Ev} (h : Oks lo hi a) (h1 : lo' ≤ lo) (h2 : hi ≤ hi') : Oks lo' hi' a := fun i o m => by have := h i o m; omega
theorem oks_body : ∀ (xs : List Int) (k : Nat), (∀ z ∈ xs, 0 ≤ z ∧ z < 256) → Oks k (k + xs.length) (bodyE k xs)
  | [], k, _ => fun i o m => by cases m
  | x :: xs, k, h => fun i o m => by
    rcases List.mem_cons.mp m with m | m
    · have e := Option.some.inj m
      have e1 : i = k := congrArg Prod.fst e
      have e2 : o = x := congrArg Prod.snd e
      subst e1 e2
      exact ⟨Nat.le_refl _, by simp, h o (List.mem_cons_self ..)⟩
    · have := oks_body xs (k + 1) (fun z hz => h z (List.mem_cons_of_mem _ hz)) i o m
      simp only [List.length_cons]
      omega
theorem oks_rec (r : List Int) (k : Nat) (hr : r.length < 65536) (h : ∀ z ∈ r, 0 ≤ z ∧ z < 256) : Oks (k + 1) (k + 3 + r.length) (recE k r) := by
  unfold recE
  refine Oks.append (fun i o m => ?_) ((oks_body r (k + 3) h).mono (by omega) (Nat.le_refl _))
  rcases List.mem_cons.mp m with m | m
  · have e := Option.some.inj m
    have e1 : i = k + 1 := congrArg Prod.fst e
    have e2 : o = ((r.length / 256 : Nat) : Int) := congrArg Prod.snd e
    omega
  · have m := List.mem_singleton.mp m
    have e := Option.some.inj m
    have e1 : i = k + 2 := congrArg Prod.fst e
    have e2 : o = ((r.length % 256 : Nat) : Int) := congrArg Prod.snd e
    omega
theorem oks_one (k hi : Nat) (z : Int) (h : k < hi) (hz : 0 ≤ z ∧ z < 256) : Oks k hi [some (k, z)] := fun i o m => by
  have e := Option.some.inj (List.mem_singleton.mp m)
  have e1 : i = k := congrArg Prod.fst e
  have e2 : o = z := congrArg Prod.snd e
  omega
theorem oks_none (lo hi : Nat) : Oks lo hi [none] := fun i o m => by
  have := List.mem_singleton.mp m
  cases this
theorem oks_end (k stop : Nat) : Oks k stop (endE k stop) := by
  unfold endE
  split
  · exact oks_one _ _ _ (by assumption) (by decide)
  · intro i o m; cases m
theorem oks_wE {fin stop n : Nat} {r : List Int} (hb : fin + 3 + r.length ≤ stop) (hn : stop ≤ n) (hr : r.length < 65536) (h : ∀ z ∈ r, 0 ≤ z ∧ z < 256) : Oks 0 n (wE fin stop r) := by
  have e3 : ([none, some (fin, 1), none] : List Ev) = [none] ++ [some (fin, 1)] ++ [none] := rfl
  unfold wE wPre
  rw [e3]
  exact ((((oks_rec r fin hr h).mono (by omega) (by omega)).append ((oks_end _ _).mono (by omega) hn)).append (((oks_none 0 n).append ((oks_one fin n 1 (by omega) (by decide)).mono (by omega) (Nat.le_refl _))).append (oks_none 0 n)))
theorem oks_recs : ∀ (rs : List (List Int)) (k : Nat), (∀ r ∈ rs, r.length < 65536 ∧ ∀ z ∈ r, 0 ≤ z ∧ z < 256) → Oks k (k + needs rs) (recsE k rs)
  | [], k, _ => fun i o m => by cases m
  | r :: rs, k, h => by
    have hr := h r (List.mem_cons_self ..)
    have e : recsE k (r :: rs) = ([some (k, 1)] ++ recE k r) ++ recsE (k + 3 + r.length) rs := rfl
    rw [e, needs_cons]
    refine Oks.append (Oks.append ((oks_one k (k + (3 + r.length + needs rs)) 1 (by omega) (by decide))) ((oks_rec r k hr.1 hr.2).mono (by omega) (by omega))) ?_
    exact (oks_recs rs (k + 3 + r.length) fun q hq => h q (List.mem_cons_of_mem _ hq)).mono (by omega) (by omega)
theorem oks_rE {k stop n side : Nat} {rs : List (List Int)} (hb : k + needs rs ≤ stop) (hn : stop ≤ n) (n0 : 0 < n) (hs : side ≤ 1) (h : ∀ r ∈ rs, r.length < 65536 ∧ ∀ z ∈ r, 0 ≤ z ∧ z < 256) : Oks 0 n (rE k stop side rs) := by
  have e3 : ([none, some (0, (side : Int)), none] : List Ev) = [none] ++ [some (0, (side : Int))] ++ [none] := rfl
  unfold rE rPre
  rw [e3]
  exact ((((oks_recs rs k h).mono (by omega) (by omega)).append ((oks_end _ _).mono (by omega) hn)).append (((oks_none 0 n).append (oks_one 0 n _ n0 ⟨by omega, by omega⟩)).append (oks_none 0 n)))
theorem Oks.puts {lo hi : Nat} : ∀ {evs : List Ev}, Oks lo hi evs → ∀ i ∈ puts evs, i < hi
  | [], _, i, m => by cases m
  | none :: r, h, i, m => Oks.puts (evs := r) (fun i o m => h i o (List.mem_cons_of_mem _ m)) i m
  | some p :: r, h, i, m => by
    rcases List.mem_cons.mp m with m | m
    · subst m; exact (h p.1 p.2 (List.mem_cons_self ..)).2.1
    · exact Oks.puts (evs := r) (fun i o m => h i o (List.mem_cons_of_mem _ m)) i m
theorem has_zero (n : Nat) (hn : 3 ≤ n) : (List.replicate n (0 : Int))[0]? = some 0 ∧ Enc (List.replicate n (0 : Int)) (half n 1) (half n 0) [] (half n 0) := by
  refine ⟨by rw [List.getElem?_replicate, if_pos (by omega)], .fin (by unfold half; omega) fun h => ?_⟩
  have : half n 0 = 1 := by unfold half; omega
  rw [this, List.getElem?_replicate, if_pos (by omega)]
theorem wE_len (fin stop : Nat) (r : List Int) : (wE fin stop r).length ≤ r.length + 6 := by
  have := endE_len (fin + 3 + r.length) stop
  unfold wE wPre
  simp [recE_len]
  omega
theorem rE_len (k stop side : Nat) (rs : List (List Int)) : (rE k stop side rs).length ≤ needs rs + 4 := by
  have := endE_len (k + needs rs) stop
  unfold rE rPre
  simp [recsE_len]
  omega
theorem rE_none (k stop side : Nat) (rs : List (List Int)) : ∃ es, rE k stop side rs = es ++ [none] := ⟨rPre k stop rs ++ [none, some (0, (side : Int))], by simp [rE]⟩
theorem wE_none (fin stop : Nat) (r : List Int) : ∃ es, wE fin stop r = es ++ [none] := ⟨wPre fin stop r ++ [none, some (fin, 1)], by simp [wE]⟩
end JM
namespace K92
open PySem PySem.Spec PyProof.Rows L2 KP
open C8 (fnScope fnBody fnArgs fnScope_by)
def topS (i : Nat) : Stmt := PySem.Challenge.pw_neverregret_k92_whole_long_records_of_jo.main.body.getD i (.Pass ⟨0, 0, 0, 0⟩)
def inC (i j : Nat) : Stmt := match topS i with
  | .ClassDef _ _ _ body _ _ _ _ _ _ _ => body.getD j (.Pass ⟨0, 0, 0, 0⟩)
  | _ => .Pass ⟨0, 0, 0, 0⟩
abbrev s_Disk___init__ : Stmt := inC 11 0
abbrev n_Disk___init__ : List Str := ["self", "cells", "cell"]
theorem sc_Disk___init__ : FnScope n_Disk___init__ ["self", "cells"] (fnScope s_Disk___init__) := fnScope_by (by decide +kernel)
abbrev s_Disk_look : Stmt := inC 11 1
abbrev n_Disk_look : List Str := ["self", "at"]
theorem sc_Disk_look : FnScope n_Disk_look ["self", "at"] (fnScope s_Disk_look) := fnScope_by (by decide +kernel)
abbrev s_Disk_put : Stmt := inC 11 2
abbrev n_Disk_put : List Str := ["self", "at", "octet"]
theorem sc_Disk_put : FnScope n_Disk_put ["self", "at", "octet"] (fnScope s_Disk_put) := fnScope_by (by decide +kernel)
abbrev s_Disk_flush : Stmt := inC 11 3
abbrev n_Disk_flush : List Str := ["self"]
theorem sc_Disk_flush : FnScope n_Disk_flush ["self"] (fnScope s_Disk_flush) := fnScope_by (by decide +kernel)
abbrev s_Disk_events : Stmt := inC 11 4
abbrev n_Disk_events : List Str := ["self"]
theorem sc_Disk_events : FnScope n_Disk_events ["self"] (fnScope s_Disk_events) := fnScope_by (by decide +kernel)
abbrev s_Journal___init__ : Stmt := inC 20 0
abbrev n_Journal___init__ : List Str := ["self", "disk"]
theorem sc_Journal___init__ : FnScope n_Journal___init__ ["self", "disk"] (fnScope s_Journal___init__) := fnScope_by (by decide +kernel)
abbrev s_Journal_records : Stmt := inC 20 1
abbrev n_Journal_records : List Str := ["self"]
theorem sc_Journal_records : FnScope n_Journal_records ["self"] (fnScope s_Journal_records) := fnScope_by (by decide +kernel)
abbrev s_Journal_write : Stmt := inC 20 2
abbrev n_Journal_write : List Str := ["self", "record", "at", "stop", "behind"]
theorem sc_Journal_write : FnScope n_Journal_write ["self", "record"] (fnScope s_Journal_write) := fnScope_by (by decide +kernel)
abbrev s_Journal_renew : Stmt := inC 20 3
abbrev n_Journal_renew : List Str := ["self", "records", "side", "at", "stop", "record"]
theorem sc_Journal_renew : FnScope n_Journal_renew ["self", "records"] (fnScope s_Journal_renew) := fnScope_by (by decide +kernel)
abbrev s_is_integer : Stmt := topS 5
abbrev n_is_integer : List Str := ["value"]
theorem sc_is_integer : FnScope n_is_integer ["value"] (fnScope s_is_integer) := fnScope_by (by decide +kernel)
abbrev s_is_number : Stmt := topS 6
abbrev n_is_number : List Str := ["value"]
theorem sc_is_number : FnScope n_is_number ["value"] (fnScope s_is_number) := fnScope_by (by decide +kernel)
abbrev s_is_octet : Stmt := topS 10
abbrev n_is_octet : List Str := ["value"]
theorem sc_is_octet : FnScope n_is_octet ["value"] (fnScope s_is_octet) := fnScope_by (by decide +kernel)
abbrev s_half_start : Stmt := topS 15
abbrev n_half_start : List Str := ["disk", "side"]
theorem sc_half_start : FnScope n_half_start ["disk", "side"] (fnScope s_half_start) := fnScope_by (by decide +kernel)
abbrev s_records_from : Stmt := topS 16
abbrev n_records_from : List Str := ["disk", "start", "stop", "found", "at", "first", "behind", "place"]
theorem sc_records_from : FnScope n_records_from ["disk", "start", "stop"] (fnScope s_records_from) := fnScope_by (by decide +kernel)
abbrev s_needed_cells : Stmt := topS 17
abbrev n_needed_cells : List Str := ["records", "record"]
theorem sc_needed_cells : FnScope n_needed_cells ["records"] (fnScope s_needed_cells) := fnScope_by (by decide +kernel)
abbrev s_put_record : Stmt := topS 18
abbrev n_put_record : List Str := ["disk", "at", "record", "place", "octet"]
theorem sc_put_record : FnScope n_put_record ["disk", "at", "record"] (fnScope s_put_record) := fnScope_by (by decide +kernel)
abbrev s_put_end : Stmt := topS 19
abbrev n_put_end : List Str := ["disk", "at", "stop"]
theorem sc_put_end : FnScope n_put_end ["disk", "at", "stop"] (fnScope s_put_end) := fnScope_by (by decide +kernel)
abbrev s__law_heap : Stmt := topS 22
abbrev n__law_heap : List Str := ["script", "cells", "stir", "cell"]
theorem sc__law_heap : FnScope n__law_heap ["script"] (fnScope s__law_heap) := fnScope_by (by decide +kernel)
abbrev s__law_draw : Stmt := topS 23
abbrev n__law_draw : List Str := ["heap", "many", "rest"]
theorem sc__law_draw : FnScope n__law_draw ["heap", "many"] (fnScope s__law_draw) := fnScope_by (by decide +kernel)
abbrev s__law_pick : Stmt := topS 24
abbrev n__law_pick : List Str := ["heap", "some"]
theorem sc__law_pick : FnScope n__law_pick ["heap", "some"] (fnScope s__law_pick) := fnScope_by (by decide +kernel)
abbrev s__law_is_record : Stmt := topS 25
abbrev n__law_is_record : List Str := ["told", "due", "at"]
theorem sc__law_is_record : FnScope n__law_is_record ["told", "due"] (fnScope s__law_is_record) := fnScope_by (by decide +kernel)
abbrev s__law_left : Stmt := topS 26
abbrev n__law_left : List Str := ["heap", "cells", "events", "now", "lasts", "pending", "event", "at", "way", "octet"]
theorem sc__law_left : FnScope n__law_left ["heap", "cells", "events"] (fnScope s__law_left) := fnScope_by (by decide +kernel)
abbrev s__law_base : Stmt := topS 27
abbrev n__law_base : List Str := ["cells", "events", "flushed", "now", "event", "at"]
theorem sc__law_base : FnScope n__law_base ["cells", "events"] (fnScope s__law_base) := fnScope_by (by decide +kernel)
abbrev s__law_record : Stmt := topS 28
abbrev n__law_record : List Str := ["heap", "size", "first", "step", "late", "at"]
theorem sc__law_record : FnScope n__law_record ["heap", "size"] (fnScope s__law_record) := fnScope_by (by decide +kernel)
abbrev s__law_are_records : Stmt := topS 29
abbrev n__law_are_records : List Str := ["told", "due", "at"]
theorem sc__law_are_records : FnScope n__law_are_records ["told", "due"] (fnScope s__law_are_records) := fnScope_by (by decide +kernel)
abbrev s__law_on : Stmt := topS 30
abbrev n__law_on : List Str := ["cells", "due", "disk"]
theorem sc__law_on : FnScope n__law_on ["cells", "due"] (fnScope s__law_on) := fnScope_by (by decide +kernel)
abbrev s__law_done : Stmt := topS 31
abbrev n__law_done : List Str := ["journal", "word", "what", "told"]
theorem sc__law_done : FnScope n__law_done ["journal", "word", "what"] (fnScope s__law_done) := fnScope_by (by decide +kernel)
abbrev s_law : Stmt := topS 32
abbrev n_law : List Str := ["script", "heap", "size", "old", "long", "new", "room", "cells", "journal", "begun", "way", "events", "base", "since", "behind", "left", "fresh", "last", "at", "record"]
theorem sc_law : FnScope n_law ["script"] (fnScope s_law) := fnScope_by (by decide +kernel)
structure Txt (K : PySem.W.Frag) (mg : Str → Option Value) (C_Disk C_Journal : Addr) : Prop where
  m_abs : mg "abs" = none
  m_all : mg "all" = none
  m_bool : mg "bool" = none
  m_enumerate : mg "enumerate" = none
  m_int : mg "int" = none
  m_isinstance : mg "isinstance" = none
  m_len : mg "len" = none
  m_list : mg "list" = none
  m_max : mg "max" = none
  m_range : mg "range" = none
  m_sum : mg "sum" = none
  m_tuple : mg "tuple" = none
  g_MOST_CELLS : ∃ u, mg "MOST_CELLS" = some u ∧ RelV (.int 20000) u
  g_OCTETS : ∃ u, mg "OCTETS" = some u ∧ RelV (.int 256) u
  g_HEAD : ∃ u, mg "HEAD" = some u ∧ RelV (.int 3) u
  g_MARK : ∃ u, mg "MARK" = some u ∧ RelV (.int 1) u
  k_Disk : ∃ f fd, Mk K C_Disk f ∧ mg "Disk" = some (.ref C_Disk) ∧ C8.Fun K "__init__" "Disk.__init__" s_Disk___init__ f fd ∧ Binds K fd ["self", "cells"] []
  d_Disk_look : ∃ f fd, Meth K C_Disk "look" f ∧ C8.Fun K "look" "Disk.look" s_Disk_look f fd ∧ Binds K fd ["self", "at"] []
  d_Disk_put : ∃ f fd, Meth K C_Disk "put" f ∧ C8.Fun K "put" "Disk.put" s_Disk_put f fd ∧ Binds K fd ["self", "at", "octet"] []
  d_Disk_flush : ∃ f fd, Meth K C_Disk "flush" f ∧ C8.Fun K "flush" "Disk.flush" s_Disk_flush f fd ∧ Binds K fd ["self"] []
  d_Disk_events : ∃ f fd, Meth K C_Disk "events" f ∧ C8.Fun K "events" "Disk.events" s_Disk_events f fd ∧ Binds K fd ["self"] []
  k_Journal : ∃ f fd, Mk K C_Journal f ∧ mg "Journal" = some (.ref C_Journal) ∧ C8.Fun K "__init__" "Journal.__init__" s_Journal___init__ f fd ∧ Binds K fd ["self", "disk"] []
  d_Journal_records : ∃ f fd, Meth K C_Journal "records" f ∧ C8.Fun K "records" "Journal.records" s_Journal_records f fd ∧ Binds K fd ["self"] []
  d_Journal_write : ∃ f fd, Meth K C_Journal "write" f ∧ C8.Fun K "write" "Journal.write" s_Journal_write f fd ∧ Binds K fd ["self", "record"] []
  d_Journal_renew : ∃ f fd, Meth K C_Journal "renew" f ∧ C8.Fun K "renew" "Journal.renew" s_Journal_renew f fd ∧ Binds K fd ["self", "records"] []
  d_is_integer : ∃ f fd, C8.Def K mg "is_integer" s_is_integer f fd ∧ Binds K fd ["value"] []
  d_is_number : ∃ f fd, C8.Def K mg "is_number" s_is_number f fd ∧ Binds K fd ["value"] []
  d_is_octet : ∃ f fd, C8.Def K mg "is_octet" s_is_octet f fd ∧ Binds K fd ["value"] []
  d_half_start : ∃ f fd, C8.Def K mg "half_start" s_half_start f fd ∧ Binds K fd ["disk", "side"] []
  d_records_from : ∃ f fd, C8.Def K mg "records_from" s_records_from f fd ∧ Binds K fd ["disk", "start", "stop"] []
  d_needed_cells : ∃ f fd, C8.Def K mg "needed_cells" s_needed_cells f fd ∧ Binds K fd ["records"] []
  d_put_record : ∃ f fd, C8.Def K mg "put_record" s_put_record f fd ∧ Binds K fd ["disk", "at", "record"] []
  d_put_end : ∃ f fd, C8.Def K mg "put_end" s_put_end f fd ∧ Binds K fd ["disk", "at", "stop"] []
  d__law_heap : ∃ f fd, C8.Def K mg "_law_heap" s__law_heap f fd ∧ Binds K fd ["script"] []
  d__law_draw : ∃ f fd, C8.Def K mg "_law_draw" s__law_draw f fd ∧ Binds K fd ["heap", "many"] []
  d__law_pick : ∃ f fd, C8.Def K mg "_law_pick" s__law_pick f fd ∧ Binds K fd ["heap", "some"] []
  d__law_is_record : ∃ f fd, C8.Def K mg "_law_is_record" s__law_is_record f fd ∧ Binds K fd ["told", "due"] []
  d__law_left : ∃ f fd, C8.Def K mg "_law_left" s__law_left f fd ∧ Binds K fd ["heap", "cells", "events"] []
  d__law_base : ∃ f fd, C8.Def K mg "_law_base" s__law_base f fd ∧ Binds K fd ["cells", "events"] []
  d__law_record : ∃ f fd, C8.Def K mg "_law_record" s__law_record f fd ∧ Binds K fd ["heap", "size"] []
  d__law_are_records : ∃ f fd, C8.Def K mg "_law_are_records" s__law_are_records f fd ∧ Binds K fd ["told", "due"] []
  d__law_on : ∃ f fd, C8.Def K mg "_law_on" s__law_on f fd ∧ Binds K fd ["cells", "due"] []
  d__law_done : ∃ f fd, C8.Def K mg "_law_done" s__law_done f fd ∧ Binds K fd ["journal", "word", "what"] []
  d_law : ∃ f fd, C8.Def K mg "law" s_law f fd ∧ Binds K fd ["script"] []
  cl_Disk : Cls K C_Disk
  gC_Disk : mg "Disk" = some (.ref C_Disk)
  na_Disk_cells : NoAttr K C_Disk "cells"
  na_Disk__octets : NoAttr K C_Disk "_octets"
  na_Disk__events : NoAttr K C_Disk "_events"
  cl_Journal : Cls K C_Journal
  gC_Journal : mg "Journal" = some (.ref C_Journal)
  na_Journal_disk : NoAttr K C_Journal "disk"
  na_Journal__side : NoAttr K C_Journal "_side"
  na_Journal__records : NoAttr K C_Journal "_records"
  na_Journal__end : NoAttr K C_Journal "_end"
end K92
local macro_rules | `(tactic| walk_at "kp_c") => `(tactic| first
  | decide | omega | (left; constructor <;> omega) | (right; constructor <;> omega) | (constructor <;> omega) | (show 2 ≤ sizeLine; decide) | (show 1 ≤ sizeLine; decide) | (show 0 ≤ sizeLine; decide) | (exact Nat.le_trans (m := 1000) (Nat.le_of_ble_eq_true rfl) (by decide)) | rfl | assumption)
local macro_rules | `(tactic| walk_at "kpA") => `(tactic| with_reducible (first
  | refine KP.w_seq ?_ | refine KP.w_asg ?_ | refine KP.w_gName ?_ | refine KP.w_c ?_ | refine KP.w_op ?_ | refine KP.w_un ?_ | refine KP.w_ret ?_ | refine KP.w_retN ?_
  | refine KP.w_call ?_ | refine KP.w_cons ?_ | refine KP.w_nil ?_ | refine KP.w_cb ?_ | refine KP.w_ifS ?_ | refine KP.w_tB ?_ | refine KP.w_tTest ?_ | refine KP.w_blV ?_ | refine KP.w_rEqI ?_ | refine KP.w_rNeI ?_
  | refine KP.w_rI0 ?_ | refine KP.w_rU ?_ | refine KP.w_tAnd ?_ | refine KP.w_tOr ?_ | refine KP.w_tNot ?_ | refine KP.w_tAndV ?_ | refine KP.w_tOrV ?_ | refine KP.w_tNotV ?_ | refine KP.w_tIf ?_ | refine KP.w_tChain ?_
  | refine KP.w_isN ?_ | refine KP.w_notN ?_ | refine KP.w_noPart ?_ | refine KP.w_part ?_ | refine KP.w_parV ?_ | refine KP.w_sl ?_ | refine KP.w_bm0 ?_ | refine KP.w_bm ?_ | refine KP.w_rev ?_
  | refine KP.w_meth ?_ | refine KP.w_make ?_ | refine KP.w_fld ?_ | refine KP.w_sfld ?_ | refine KP.w_drop ?_ | refine KP.w_next ?_ | refine KP.w_break ?_ | refine KP.w_cont ?_ | refine KP.w_tup ?_ | refine KP.w_lst ?_
  | refine KP.w_gCons ?_ | refine KP.w_gNil ?_ | refine KP.w_gFld ?_ | refine KP.w_gSub ?_ | refine KP.w_par ?_ | refine KP.w_par2 ?_ | refine KP.w_par3 ?_ | refine KP.w_par3V ?_
  | refine KP.w_itT ?_ | refine KP.w_itF ?_ | refine KP.w_itNT ?_ | refine KP.w_itNF ?_ | refine KP.w_ifRefNon ?_ | refine KP.w_ifIntNon ?_ | refine KP.w_ifNonNon ?_ | refine KP.w_ifRefNot ?_ | refine KP.w_ifIntNot ?_ | refine KP.w_ifNonNot ?_
  | refine KP.w_forL ?_ | refine KP.w_forT ?_ | refine KP.w_forR1 ?_ | refine KP.w_forET ?_ | refine KP.w_lcL ?_ | refine KP.w_lcT ?_ | refine KP.w_lcR1 ?_ | refine KP.w_lcR2 ?_ | refine KP.w_yes ?_
  | refine KP.w_intI ?_ | refine KP.w_intB ?_ | refine KP.w_abs ?_ | refine KP.w_max2 ?_ | refine KP.w_min2 ?_ | refine KP.w_isiII ?_ | refine KP.w_isiIB ?_ | refine KP.w_isiIT ?_))
local macro_rules | `(tactic| walk_at "kp1") => `(tactic| first
  | walk_at "kpA"
  | ((with_reducible refine' KP.w_var ?kpv ?_); (case kpv => exact rfl))
  | ((with_reducible refine' KP.w_rI ?kpc ?_); (case kpc => walk_at "kp_c"))
  | ((with_reducible refine' KP.w_seqV ?kpc ?_); (case kpc => walk_at "kp_c")))
local macro_rules | `(tactic| walk_at "kp") => `(tactic| repeat walk_at "kp1")
namespace K92
open PySem PySem.Spec PyProof.Rows L2 KP
open C8 (fnScope fnBody fnArgs fnScope_by)
section
variable {P : Program} {w : World} {K : PySem.W.Frag} {mg : Str → Option Value} {base : Heap} {C_Disk C_Journal : Addr}
theorem cal__law_draw (T : Txt K mg C_Disk C_Journal) : C8.Cal P w K mg base 1 "_law_draw" spDraw [] := by
  refine mkCal T.d__law_draw sc__law_draw (fun vs H Q E h => ?_) (fun f cdv A outer s H vs Q E hr h => ?_)
  · obtain ⟨a, b, n, rfl, _⟩ := h; rfl
  · obtain ⟨a, b, n, rfl, ⟨cs, st, R⟩, h0, h1, k⟩ := h
    refine ⟨_, (C8.pss_cut (ps_while PassesOwn.never (PW.pt (pw_and (pt_cmpR (KP.op_neXK K rfl hr.units) (pe_ix (KP.ix_listK K rfl) (pv 0) pe_int (fun _ _ => rfl)) (pe_lst pa_nil) (nomark _)) (pw_and1 (pt_cmpR op_eq (pe_ix (KP.ix_listK K rfl) (pe_ix (KP.ix_listK K rfl) (pv 0) pe_int (fun _ _ => rfl)) (pe_un un_neg pe_int) (fun _ _ => rfl)) pe_int (nomark _)))))
 (pss_one (ps_expr (KP.pe_bm0K K rfl PySem.F.plainAttrs_list PySem.F.slot_list_pop PySem.F.type_list_pop mt_pop (pe_ix (KP.ix_listK K rfl) (pv 0) pe_int (fun _ _ => rfl))))))
 (pss_cons (ps_if (pt_cmpR (KP.op_neXK K rfl hr.units) (pe_ix (KP.ix_listK K rfl) (pv 0) pe_int (fun _ _ => rfl)) (pe_lst pa_nil) (nomark _))
 (pss_cons (ps_set (i := 2) sc__law_draw.nd rfl (by first | exact Or.inl rfl | exact Or.inr rfl) (KP.pe_bm0K K rfl PySem.F.plainAttrs_list PySem.F.slot_list_pop PySem.F.type_list_pop mt_pop (pe_ix (KP.ix_listK K rfl) (pv 0) pe_int (fun _ _ => rfl))))
 (pss_cons (ps_expr (KP.pe_bmK K rfl PySem.F.plainAttrs_list PySem.F.slot_list_append PySem.F.type_list_append mt_append (pe_ix (KP.ix_listK K rfl) (pv 0) pe_int (fun _ _ => rfl)) (pa_cons (pe_op op_fdiv (pv 2) (pv 1)) pa_nil)))
 (pss_one (ps_ret (pe_op op_mod (pe_callTy KP.cq_int rfl T.m_int KP.bt_int (pa_cons (pv 2) pa_nil)) (pv 1))))))
 pss_nil)
 (pss_cons (ps_asg (pe_op op_mod (pe_callTy KP.cq_int rfl T.m_int KP.bt_int (pa_cons (pe_op op_add (pe_op op_mul (pe_ix (KP.ix_listK K rfl) (pv 0) pe_int (fun _ _ => rfl)) pe_int) pe_int) pa_nil)) pe_int) (pg_sub (pv 0) pe_int set_list))
 (pss_one (ps_ret (pe_op op_mod (pe_callTy KP.cq_int rfl T.m_int KP.bt_int (pa_cons (pe_op op_fdiv (pe_ix (KP.ix_listK K rfl) (pv 0) pe_int (fun _ _ => rfl)) pe_int) pa_nil)) (pv 1))))))), ?_⟩
    (simp only [n__law_draw, KP.st_cons, KP.st_nilc, KP.st_nil]); (try dsimp only [L2.cxOf, L2.Cx.nox, L2.Cx.wish])
    -- while heap[0] != [] and heap[0][-1] == 0: heap[0].pop()
    refine w_cut (fun σ' H1 => ∃ cs, σ' = [some (.ref a), some (.int n), none] ∧ Kp [a, b] H H1 ∧ RngS H1 a b cs st) ?_ ?_
    · refine w_whileQ (fun m σ H1 => ∃ (cs : List Int), m = cs.length ∧ σ = [some (.ref a), some (.int n), none] ∧ Kp [a, b] H H1 ∧ RngS H1 a b cs st) _ ⟨cs, rfl, rfl, Kp.refl, R⟩ ?_
      rintro m σ H1 Qt ⟨cs, rfl, rfl, e1, R⟩ qT qF
      walk_at "kp"
      refine w_ixL (SqL.of R.ha) (by rfl) ?_
      walk_at "kp"
      intro p hp
      have R1 : RngS (upd H1 p (.lst [])) a b cs st := R.new hp
      have e2 : Kp [a, b] H (upd H1 p (.lst [])) := e1.trans (Kp.new hp)
      refine w_neNil (SqL.of R1.hb) upd_same ?_
      walk_at "kp"
      refine w_itN (fun hne => ?_) (fun he => ?_)
      · obtain ⟨ds, d, rfl⟩ : ∃ ds d, cs = ds ++ [d] := ⟨cs.dropLast, cs.getLast hne, (List.dropLast_concat_getLast hne).symm⟩
        walk_at "kp"
        refine w_ixL (SqL.of R1.ha) (by rfl) ?_
        walk_at "kp"
        refine w_ixL (SqL.of R1.hb) (by rw [List.map_append]; exact atI_last _ _) ?_
        walk_at "kp"
        by_cases hz : d = 0
        · rw [decide_eq_true hz]
          refine qT _ ?_
          walk_at "kp"
          refine w_ixL (SqL.of R1.ha) (by rfl) ?_
          refine w_bmL R1.hb ?_
          refine w_pop R1.hb (y := .int d) (by simp) ?_
          walk_at "kp"
          refine ⟨ds.length, by simp, ds, rfl, rfl, e2.trans (Kp.set R1.hb rfl (by simp)), ?_⟩
          rw [List.map_append, List.map_singleton, List.dropLast_concat]
          exact R1.put (by have := R.len; simp at this; omega)
        · rw [decide_eq_false hz]
          exact qF _ ⟨_, rfl, e2, R1⟩
      · exact qF _ ⟨_, rfl, e2, R1⟩
    · rintro σ' H1 ⟨cs, rfl, e1, R⟩
      walk_at "kp"
      refine w_ixL (SqL.of R.ha) (by rfl) ?_
      walk_at "kp"
      intro p hp
      have R1 : RngS (upd H1 p (.lst [])) a b cs st := R.new hp
      have e2 : Kp [a, b] H (upd H1 p (.lst [])) := e1.trans (Kp.new hp)
      refine w_neNil (SqL.of R1.hb) upd_same ?_
      walk_at "kp"
      refine w_itN (fun hne => ?_) (fun he => ?_)
      · obtain ⟨ds, d, rfl⟩ : ∃ ds d, cs = ds ++ [d] := ⟨cs.dropLast, cs.getLast hne, (List.dropLast_concat_getLast hne).symm⟩
        walk_at "kp"
        refine w_ixL (SqL.of R1.ha) (by rfl) ?_
        refine w_bmL R1.hb ?_
        refine w_pop R1.hb (y := .int d) (by simp) ?_
        walk_at "kp"
        rw [List.map_append, List.map_singleton, List.dropLast_concat]
        have hl : ds.length + 1 ≤ 1000 := by have := R.len; simp at this; omega
        have R2 := R1.put (ds := ds) (by omega)
        refine w_ixL (SqL.of R2.ha) (by rfl) ?_
        refine w_bmL R2.hb ?_
        walk_at "kp"
        refine w_append R2.hb (by rw [List.length_map, sizeLine_eq]; omega) ?_
        walk_at "kp"
        have em : ds.map V.int ++ [V.int (d / n)] = (ds ++ [d / n]).map V.int := by simp
        rw [upd_upd, em]
        exact k _ _ (Int.emod_nonneg _ (by omega)) (Int.emod_lt_of_pos _ h0) (e2.trans (Kp.set R1.hb rfl (by simp))) ⟨_, _, R1.put (by simp; omega)⟩
      · walk_at "kp"
        refine w_ixL (SqL.of R1.ha) (by rfl) ?_
        walk_at "kp"
        refine w_setL R1.ha (by rfl) ?_
        walk_at "kp"
        refine w_ixL (SqL.of upd_same) (by rfl) ?_
        walk_at "kp"
        exact k _ _ (Int.emod_nonneg _ (by omega)) (Int.emod_lt_of_pos _ h0) (e2.trans (Kp.set R1.ha rfl (by simp))) ⟨_, _, R1.stir⟩
theorem cal__law_pick (T : Txt K mg C_Disk C_Journal) : C8.Cal P w K mg base 2 "_law_pick" (spPick K) [] := by
  refine mkCal T.d__law_pick sc__law_pick (fun vs H Q E h => ?_) (fun f cdv A outer s H vs Q E hr h => ?_)
  · obtain ⟨a, b, p, xs, rfl, _⟩ := h; rfl
  · obtain ⟨a, b, p, xs, rfl, R, hp, pa, pb, hne, hl, k⟩ := h
    refine ⟨_, (pss_one (ps_ret (pe_ix (KP.ix_listK K rfl) (pv 1) (C8.pe_c (cal__law_draw T) hr (by decide) rfl (pa_cons (pv 0) (pa_cons (pe_callB (KP.cq_lenK K rfl) rfl T.m_len KP.bt_len (pa_cons (pv 1) pa_nil)) pa_nil))) (fun _ _ => rfl)))), ?_⟩
    (simp only [n__law_pick, KP.st_cons, KP.st_nilc, KP.st_nil]); (try dsimp only [L2.cxOf, L2.Cx.nox, L2.Cx.wish])
    walk_at "kp"
    refine w_lenL hp ?_
    walk_at "kp"
    have h0 : 0 < xs.length := List.length_pos_iff.mpr hne
    refine ⟨a, b, _, rfl, R, by omega, by omega, fun z H1 z0 z1 e1 R1 => ?_⟩
    walk_at "kp"
    have hz : z.toNat < xs.length := by omega
    exact w_ixL (v := xs[z.toNat]) (e1.sqL hp (by simp [pa, pb])) (at_of (j := z.toNat) (by omega) (by simp [hz])) (k z.toNat (xs[z.toNat]) H1 (by simp [hz]) e1 R1)
theorem cal__law_heap (T : Txt K mg C_Disk C_Journal) : C8.Cal P w K mg base 1 "_law_heap" (spHeap K) [] := by
  refine mkCal T.d__law_heap sc__law_heap (fun vs H Q E h => ?_) (fun f cdv A outer s H vs Q E hr h => ?_)
  · obtain ⟨p, ns, rfl, _⟩ := h; rfl
  · obtain ⟨p, ns, rfl, hS, hl, k⟩ := h
    refine ⟨_, (pss_cons (ps_par (i := 1) (j := 2) rfl sc__law_heap.nd rfl rfl (by decide) rfl rfl (pa_cons (pe_lc (own := [("cell", 3)]) rfl sc__law_heap.nd (KP.pi_listK K rfl (pe_slice (KP.sl_listK K rfl) (pv 0) po_none (po_some pe_int)))
 (blkOk_by (N := n__law_heap) (sc := fnScope s__law_heap) (by decide +kernel)) (fun _ _ _ _ _ => (pg_name (i := 3) sc__law_heap.nd rfl (by first | exact Or.inl rfl | exact Or.inr rfl))) (fun _ _ _ _ _ => pts_nil) (fun _ _ _ _ _ => (pe_op op_add (pe_op op_mul pe_int (pe_callB KP.cq_abs rfl T.m_abs KP.bt_abs (pa_cons (pv 3) pa_nil))) (pe_callTy KP.cq_int rfl T.m_int KP.bt_int (pa_cons (pe_cmpR op_lt (pv 3) pe_int (nomark _)) pa_nil))))) (pa_cons pe_int pa_nil)) rfl)
 (C8.pss_cut (ps_for PassesOwn.never rfl (KP.pi_listK K rfl (pv 1)) (pg_name (i := 3) sc__law_heap.nd rfl (by first | exact Or.inl rfl | exact Or.inr rfl))
 (pss_one (ps_set (i := 2) sc__law_heap.nd rfl (by first | exact Or.inl rfl | exact Or.inr rfl) (pe_op op_mod (pe_callTy KP.cq_int rfl T.m_int KP.bt_int (pa_cons (pe_op op_add (pe_op op_add (pe_op op_mul (pv 2) pe_int) (pe_op op_mod (pe_callTy KP.cq_int rfl T.m_int KP.bt_int (pa_cons (pv 3) pa_nil)) pe_int)) pe_int) pa_nil)) pe_int))))
 (pss_one (ps_ret (pe_lst (pa_cons (KP.pe_revLK K rfl (pe_lc (own := [("cell", 3)]) rfl sc__law_heap.nd (KP.pi_listK K rfl (pv 1))
 (blkOk_by (N := n__law_heap) (sc := fnScope s__law_heap) (by decide +kernel)) (fun _ _ _ _ _ => (pg_name (i := 3) sc__law_heap.nd rfl (by first | exact Or.inl rfl | exact Or.inr rfl))) (fun _ _ _ _ _ => (pts_one (pt_cmpR op_ge (pv 3) (pe_op op_pow pe_int pe_int) (nomark _)))) (fun _ _ _ _ _ => (pv 3)))) (pa_cons (pv 2) pa_nil))))))), ?_⟩
    (simp only [n__law_heap, KP.st_cons, KP.st_nilc, KP.st_nil]); (try dsimp only [L2.cxOf, L2.Cx.nox, L2.Cx.wish])
    walk_at "kp"
    refine w_slL hS fun p1 hp1 => ?_
    walk_at "kp"
    rw [cutV_ints]
    refine w_lcLV (SqL.of upd_same) Int [] (fun _ => True) (fun _ _ => True) (by rw [List.length_map]; exact Nat.le_trans (cutI_len _ _ _) (by omega)) (by simp) (by simp) True.intro (fun _ _ _ _ _ => True.intro) True.intro (fun i x acc H1 QE QF hx e1 _ _ hl1 kE kF => ?_) ?_
    · obtain ⟨c, rfl⟩ := int_at hx
      walk_at "kp"
      refine ⟨rfl, ?_⟩
      walk_at "kp"
      by_cases hc : c < 0
      · rw [decide_eq_true hc]
        walk_at "kp"
        exact kE _ _ _ Kp.refl True.intro (is_int _) True.intro
      · rw [decide_eq_false hc]
        walk_at "kp"
        exact kE _ _ _ Kp.refl True.intro (is_int _) True.intro
    · intro D ws ys H1 hD e1 _ _ hlen hall hH1
      have hw := hall.ints
      subst hw
      have hly : ys.length ≤ 60 := by
        refine Nat.le_trans hlen ?_
        rw [List.length_map]
        exact cutI_len60 _
      have eH : Kp [] H H1 := (Kp.new hp1).trans e1
      walk_at "kp"
      refine w_cut (fun σ' H' => ∃ (st : Int) (y3 : Option V), σ' = [some (.ref p), some (.ref D), some (.int st), y3] ∧ H' = H1) ?_ ?_
      · walk_at "kp"
        refine w_lpL (SqL.of hH1) (fun i σ' H' => ∃ (st : Int) (y3 : Option V), σ' = [some (.ref p), some (.ref D), some (.int st), y3] ∧ H' = H1) ⟨_, _, rfl, rfl⟩ (fun i σ' H' _ h => by obtain ⟨_, _, _, rfl⟩ := h; exact SqL.of hH1) (fun i x σ' H' hx h => ?_) (fun σ' H' h => h)
        obtain ⟨st, y3, rfl, rfl⟩ := h
        obtain ⟨c, rfl⟩ := int_at hx
        walk_at "kp"
        exact ⟨_, _, rfl, rfl⟩
      · rintro σ' H' ⟨st, y3, rfl, rfl⟩
        walk_at "kp"
        refine w_lcLV (SqL.of hH1) Int [] (fun _ => True) (fun _ _ => True) (by rw [List.length_map]; omega) (by simp) (by simp) True.intro (fun _ _ _ _ _ => True.intro) True.intro (fun i x acc H2 QE QF hx e2 _ _ hl1 kE kF => ?_) ?_
        · obtain ⟨c, rfl⟩ := int_at hx
          walk_at "kp"
          refine ⟨rfl, ?_⟩
          walk_at "kp"
          refine w_itD (fun _ => ?_) (fun _ => ?_)
          · walk_at "kp"
            exact kE _ _ _ Kp.refl True.intro (is_int _) True.intro
          · exact kF _ Kp.refl True.intro True.intro
        · intro D2 ws2 zs H2 hD2 e2 _ _ hlen2 hall2 hH2
          have hw := hall2.ints
          subst hw
          refine w_revV (SqL.of hH2) fun q hq => ?_
          walk_at "kp"
          intro a ha
          have haq : q ≠ a := ne_of_none upd_same ha
          have e3 : Kp [] H H2 := eH.trans e2
          have hq0 : H q = none := e3.free hq
          have ha0 : H a = none := (e3.trans (Kp.new hq)).free ha
          refine k a q _ ((e3.trans (Kp.new hq)).trans (Kp.new ha)) ⟨zs.reverse, st, upd_same, by rw [upd_ne haq, upd_same, List.map_reverse], haq.symm, by rw [List.length_reverse]; rw [List.length_map] at hlen2; omega⟩ ha0 hq0
end
end K92
namespace K92
open PySem PySem.Spec PyProof.Rows L2 KP JM
open PySem.W (Datum Tup)
open C8 (fnScope fnBody fnArgs fnScope_by)
instance evD : Datum Ev where
  toD o := match o with
    | none => .none
    | some p => .tuple [.int p.1, .int p.2]
  plain o := by cases o <;> rfl
  eqv a b := by
    cases a <;> cases b
    · simp only [PyData.eqv]; rfl
    · simp only [PyData.eqv]; rfl
    · simp only [PyData.eqv]; rfl
    · rename_i x y
      simp only [PyData.eqv, PyData.eqvAll, PySem.W.beq_decide, Bool.and_true]
      rw [← Bool.decide_and]
      refine decide_eq_decide.mpr ⟨fun e => ?_, fun e => ?_⟩
      · obtain ⟨a, b⟩ := x
        obtain ⟨c, d⟩ := y
        have h1 : a = c := Int.ofNat.inj e.1
        have h2 : b = d := e.2
        rw [h1, h2]
      · cases e; exact ⟨rfl, rfl⟩
  depth := 1
  depth_le o := by
    cases o
    · exact Nat.zero_le _
    · simp [PyData.depth, PyData.depthAll]
instance : TupD Ev := ⟨fun o => by cases o <;> simp [Datum.toD, lf, lfAll]⟩
theorem is_evN {K : PySem.W.Frag} {H : Hp} : Is K H .non (none : Ev) := Dp.non
theorem is_evS {K : PySem.W.Frag} {H : Hp} {a : Addr} {k : Nat} {o : Int} (h : SqT K H a [.int k, .int o]) : Is K H (.ref a) (some (k, o) : Ev) := Dp.tup h (.cons (.int _) (.cons (.int _) .nil))
theorem ev_of {K : PySem.W.Frag} {H : Hp} {v : V} {e : Ev} (h : Is K H v e) : (v = .non ∧ e = none) ∨ ∃ a k o, v = .ref a ∧ e = some (k, o) ∧ SqT K H a [.int (k : Nat), .int o] := by
  cases e with
  | none =>
    have a : Dp K H v .none := h
    cases a; exact .inl ⟨rfl, rfl⟩
  | some p =>
    have a : Dp K H v (.tuple [.int p.1, .int p.2]) := h
    cases a with
    | tup h1 h2 =>
      cases h2 with
      | cons a1 a2 =>
        cases a2 with
        | cons b1 b2 =>
          cases b2; cases a1; cases b1
          exact .inr ⟨_, p.1, p.2, rfl, rfl, h1⟩
def df (c l e : Addr) : List (Str × V) := [("cells", .ref c), ("_octets", .ref l), ("_events", .ref e)]
theorem df_c (c l e : Addr) : (df c l e).lookup ("cells" : Str) = some (V.ref c) := by kernel_rfl
theorem df_l (c l e : Addr) : (df c l e).lookup ("_octets" : Str) = some (V.ref l) := by kernel_rfl
theorem df_e (c l e : Addr) : (df c l e).lookup ("_events" : Str) = some (V.ref e) := by kernel_rfl
theorem df_look (c l e : Addr) : (df c l e).lookup ("look" : Str) = none := by kernel_rfl
theorem df_put (c l e : Addr) : (df c l e).lookup ("put" : Str) = none := by kernel_rfl
theorem df_flush (c l e : Addr) : (df c l e).lookup ("flush" : Str) = none := by kernel_rfl
theorem df_events (c l e : Addr) : (df c l e).lookup ("events" : Str) = none := by kernel_rfl
theorem df1 (c : Addr) : putF ("cells" : Str) (V.ref c) [] = ([("cells", V.ref c)] : List (Str × V)) := by kernel_rfl
theorem df2 (c l : Addr) : putF ("_octets" : Str) (V.ref l) [("cells", .ref c)] = ([("cells", V.ref c), ("_octets", .ref l)] : List (Str × V)) := by kernel_rfl
theorem df3 (c l e : Addr) : putF ("_events" : Str) (V.ref e) [("cells", .ref c), ("_octets", .ref l)] = df c l e := by kernel_rfl
structure DiskR (K : PySem.W.Frag) (C : Addr) (H : Hp) (d c l e : Addr) (cells : List Int) (evs : List Ev) : Prop where
  ins : ∃ dx, H d = some (.ins C dx (df c l e))
  cel : SqT K H c (cells.map V.int)
  oct : H l = some (.lst ((ap cells evs).map V.int))
  evl : ∃ vs, H e = some (.lst vs) ∧ IsAll K H vs evs
  nle : l ≠ e
section
variable {K : PySem.W.Frag} {C : Addr} {H H' : Hp} {d c l e : Addr} {cells : List Int} {evs : List Ev} {M : List Addr}
theorem DiskR.kp (D : DiskR K C H d c l e cells evs) (k : Kp M H H') (hd : d ∉ M) (hl : l ∉ M) (he : e ∉ M) : DiskR K C H' d c l e cells evs := by
  obtain ⟨⟨dx, h1⟩, h2, h3, ⟨vs, h4, h5⟩, h6⟩ := D
  exact ⟨⟨dx, k.keep _ _ h1 hd⟩, k.sqT h2, k.keep _ _ h3 hl, ⟨vs, k.keep _ _ h4 he, h5.kp k⟩, h6⟩
theorem DiskR.ndl (D : DiskR K C H d c l e cells evs) : d ≠ l := by
  obtain ⟨⟨dx, h1⟩, h2, h3, _⟩ := D
  exact ne_of h1 h3 (by intro q; cases q)
theorem DiskR.nde (D : DiskR K C H d c l e cells evs) : d ≠ e := by
  obtain ⟨⟨dx, h1⟩, h2, h3, ⟨vs, h4, _⟩, _⟩ := D
  exact ne_of h1 h4 (by intro q; cases q)
theorem DiskR.dd (D : DiskR K C H d c l e cells evs) : ∃ o, H d = some o := by obtain ⟨⟨dx, h⟩, _⟩ := D; exact ⟨_, h⟩
theorem DiskR.dl (D : DiskR K C H d c l e cells evs) : ∃ o, H l = some o := ⟨_, D.oct⟩
theorem DiskR.de (D : DiskR K C H d c l e cells evs) : ∃ o, H e = some o := by obtain ⟨_, _, _, ⟨vs, h, _⟩, _⟩ := D; exact ⟨_, h⟩
end
def spIsOct : Sp := fun vs H Q _ => ∃ i : Int, vs = [.int i] ∧ Q (.bl (decide (0 ≤ i) && decide (i < 256))) H
def spIsNum : Sp := fun vs H Q _ => ∃ i : Int, vs = [.int i] ∧ Q (.bl (decide (0 ≤ i))) H
def spIsInt : Sp := fun vs H Q _ => ∃ i : Int, vs = [.int i] ∧ Q (.bl true) H
def spDisk (K : PySem.W.Frag) (C : Addr) : Sp := fun vs H Q _ => ∃ (d dx c : Addr) (cells : List Int), vs = [.ref d, .ref c] ∧ H d = some (.ins C dx []) ∧ SqT K H c (cells.map V.int) ∧ (∀ i ∈ cells, 0 ≤ i ∧ i < 256) ∧ 1 ≤ cells.length ∧ cells.length ≤ 20000 ∧
  ∀ (l e : Addr) (H' : Hp), DiskR K C H' d c l e cells [] → Kp [d] H H' → H l = none → H e = none → Q .non H'
def spLook (K : PySem.W.Frag) (C : Addr) : Sp := fun vs H Q _ => ∃ (d c l e : Addr) (cells : List Int) (evs : List Ev) (i : Nat) (z : Int), vs = [.ref d, .int i] ∧ DiskR K C H d c l e cells evs ∧ (ap cells evs)[i]? = some z ∧ Q (.int z) H
def spPut (K : PySem.W.Frag) (C : Addr) : Sp := fun vs H Q _ => ∃ (d c l e : Addr) (cells : List Int) (evs : List Ev) (i : Nat) (o : Int), vs = [.ref d, .int i, .int o] ∧ DiskR K C H d c l e cells evs ∧ i < cells.length ∧ evs.length ≤ 1000000 ∧
  ∀ H' : Hp, DiskR K C H' d c l e cells (evs ++ [some (i, o)]) → Kp [l, e] H H' → Q .non H'
def spFlush (K : PySem.W.Frag) (C : Addr) : Sp := fun vs H Q _ => ∃ (d c l e : Addr) (cells : List Int) (evs : List Ev), vs = [.ref d] ∧ DiskR K C H d c l e cells evs ∧ evs.length ≤ 1000000 ∧
  ∀ H' : Hp, DiskR K C H' d c l e cells (evs ++ [none]) → Kp [l, e] H H' → Q .non H'
def spEvents (K : PySem.W.Frag) (C : Addr) : Sp := fun vs H Q _ => ∃ (d c l e : Addr) (cells : List Int) (evs : List Ev), vs = [.ref d] ∧ DiskR K C H d c l e cells evs ∧
  ∀ (H' : Hp) (p : Addr), Kp [] H H' → Is K H' (.ref p) (Tup.mk evs) → Q (.ref p) H'
section
variable {P : Program} {w : World} {K : PySem.W.Frag} {mg : Str → Option Value} {base : Heap} {C_Disk C_Journal : Addr}
theorem cal_is_integer (T : Txt K mg C_Disk C_Journal) : C8.Cal P w K mg base 1 "is_integer" spIsInt [] := by
  refine mkCal T.d_is_integer sc_is_integer (fun vs H Q E h => ?_) (fun f cdv A outer s H vs Q E hr h => ?_)
  · obtain ⟨i, rfl, _⟩ := h; rfl
  · obtain ⟨i, rfl, k⟩ := h
    refine ⟨_, (pss_one (ps_ret (pe_and (pe_callB (KP.call_isiK' K rfl) rfl T.m_isinstance KP.bt_isinstance (pa_cons (pv 0) (pa_cons (KP.pe_ty rfl T.m_int KP.bt_int) pa_nil))) (pe_one (pe_not (pe_callB (KP.call_isiK' K rfl) rfl T.m_isinstance KP.bt_isinstance (pa_cons (pv 0) (pa_cons (KP.pe_ty rfl T.m_bool KP.bt_bool) pa_nil)))))))), ?_⟩
    (simp only [n_is_integer, KP.st_cons, KP.st_nilc, KP.st_nil]); (try dsimp only [L2.cxOf, L2.Cx.nox, L2.Cx.wish])
    walk_at "kp"
    exact k
theorem cal_is_number (T : Txt K mg C_Disk C_Journal) : C8.Cal P w K mg base 2 "is_number" spIsNum [] := by
  refine mkCal T.d_is_number sc_is_number (fun vs H Q E h => ?_) (fun f cdv A outer s H vs Q E hr h => ?_)
  · obtain ⟨i, rfl, _⟩ := h; rfl
  · obtain ⟨i, rfl, k⟩ := h
    refine ⟨_, (pss_one (ps_ret (pe_and (C8.pe_c (cal_is_integer T) hr (by decide) rfl (pa_cons (pv 0) pa_nil)) (pe_one (pe_cmpR op_ge (pv 0) pe_int (nomark _)))))), ?_⟩
    (simp only [n_is_number, KP.st_cons, KP.st_nilc, KP.st_nil]); (try dsimp only [L2.cxOf, L2.Cx.nox, L2.Cx.wish])
    walk_at "kp"
    refine ⟨i, rfl, ?_⟩
    walk_at "kp"
    exact k
theorem cal_is_octet (T : Txt K mg C_Disk C_Journal) : C8.Cal P w K mg base 3 "is_octet" spIsOct [] := by
  refine mkCal T.d_is_octet sc_is_octet (fun vs H Q E h => ?_) (fun f cdv A outer s H vs Q E hr h => ?_)
  · obtain ⟨i, rfl, _⟩ := h; rfl
  · obtain ⟨i, rfl, k⟩ := h
    refine ⟨_, (pss_one (ps_ret (pe_and (C8.pe_c (cal_is_number T) hr (by decide) rfl (pa_cons (pv 0) pa_nil)) (pe_one (pe_cmpR op_lt (pv 0) (C8.pe_gc rfl T.g_OCTETS) (nomark _)))))), ?_⟩
    (simp only [n_is_octet, KP.st_cons, KP.st_nilc, KP.st_nil]); (try dsimp only [L2.cxOf, L2.Cx.nox, L2.Cx.wish])
    walk_at "kp"
    refine ⟨i, rfl, ?_⟩
    walk_at "kp"
    refine w_itD (fun h => ?_) (fun h => ?_)
    · walk_at "kp"
      rw [decide_eq_true h] at k
      exact k
    · rw [decide_eq_false h] at k
      exact k
theorem mak_Disk (T : Txt K mg C_Disk C_Journal) : C8.Mak P w K mg base 4 "Disk" C_Disk (spDisk K C_Disk) [] := by
  refine mkMak T.k_Disk sc_Disk___init__ (fun vs H Q E h => ?_) (fun f cdv A outer s H vs Q E hr h => ?_)
  · obtain ⟨d, dx, c, cells, rfl, _⟩ := h; rfl
  · obtain ⟨d, dx, c, cells, rfl, hd, hc, ho, h1, h2, k⟩ := h
    refine ⟨_, (pss_cons (ps_if (PW.pt (pw_or (pt_not (pt_val (pe_callB (KP.call_isiK' K rfl) rfl T.m_isinstance KP.bt_isinstance (pa_cons (pv 1) (pa_cons (KP.pe_ty rfl T.m_tuple KP.bt_tuple) pa_nil))))) (pw_or1 (pt_not (pt_chain op_le op_le pe_int (pe_callB (KP.cq_lenK K rfl) rfl T.m_len KP.bt_len (pa_cons (pv 1) pa_nil)) (C8.pe_gc rfl T.g_MOST_CELLS))))))
 (pss_one ps_never)
 pss_nil)
 (pss_cons (ps_if (pt_not (pt_val (pe_callB (KP.cr_allK K rfl rfl) rfl T.m_all KP.bt_all (pa_cons (pe_lc (own := [("cell", 2)]) rfl sc_Disk___init__.nd (KP.pi_tupK K rfl (pv 1))
 (blkOk_by (N := n_Disk___init__) (sc := fnScope s_Disk___init__) (by decide +kernel)) (fun _ _ _ _ _ => (pg_name (i := 2) sc_Disk___init__.nd rfl (by first | exact Or.inl rfl | exact Or.inr rfl))) (fun _ _ _ _ _ => pts_nil) (fun _ _ _ _ _ => (C8.pe_c (cal_is_octet T) hr (by decide) rfl (pa_cons (pv 2) pa_nil)))) pa_nil))))
 (pss_one ps_never)
 pss_nil)
 (pss_cons (KP.ps_fldK K rfl (pv 0) (pv 1) rfl)
 (pss_cons (KP.ps_fldK K rfl (pv 0) (pe_callTy (KP.cq_listK K rfl) rfl T.m_list KP.bt_list (pa_cons (pv 1) pa_nil)) rfl)
 (pss_one (KP.ps_fldK K rfl (pv 0) (pe_lst pa_nil) rfl)))))), ?_⟩
    (simp only [n_Disk___init__, KP.st_cons, KP.st_nilc, KP.st_nil]); (try dsimp only [L2.cxOf, L2.Cx.nox, L2.Cx.wish])
    walk_at "kp"
    refine w_isiTT hc ?_
    walk_at "kp"
    refine w_lenT hc ?_
    walk_at "kp"
    rw [List.length_map, decide_eq_true (by omega)]
    walk_at "kp"
    rw [decide_eq_true (by omega)]
    walk_at "kp"
    refine w_lcTV hc Bool [] (fun _ => True) (fun i acc => ∀ b ∈ acc, b = true) (by rw [List.length_map]; omega) (by simp) True.intro (fun _ _ _ _ _ => True.intro) (by simp) (fun i x acc H1 QE QF hx e1 _ hj hl1 kE kF => ?_) ?_
    · obtain ⟨z, rfl, hz⟩ := int_at' hx
      have hzo := ho z (List.mem_of_getElem? hz)
      walk_at "kp"
      refine ⟨rfl, ?_⟩
      walk_at "kp"
      refine ⟨z, rfl, ?_⟩
      rw [decide_eq_true hzo.1, decide_eq_true hzo.2]
      refine kE _ true _ Kp.refl True.intro (is_bl _) fun b hb => ?_
      rcases List.mem_append.mp hb with hb | hb
      · exact hj b hb
      · simpa using hb
    · intro D ws ys H1 hD e1 _ hj hlen hall hH1
      have hw := hall.bls
      subst hw
      walk_at "kp"
      refine w_all (SqL.of hH1) ?_
      rw [show ys.all id = true from List.all_eq_true.mpr fun b hb => hj b hb]
      walk_at "kp"
      have hd1 : H1 d = some (.ins C_Disk dx []) := e1.keep _ _ hd (by simp)
      refine w_fldS hd1 T.cl_Disk T.na_Disk_cells (by decide) ?_
      rw [df1]
      walk_at "kp"
      have e2 : Kp [d] H (upd H1 d (.ins C_Disk dx [("cells", .ref c)])) := e1.wide.trans (Kp.set hd1 rfl (by simp))
      refine w_listT (e2.sqT hc) fun l hl => ?_
      have ndl : d ≠ l := ne_of_none upd_same hl
      have e3 := e2.trans (Kp.new (o := HO.lst (cells.map V.int)) hl)
      walk_at "kp"
      refine w_fldS (by rw [upd_ne ndl, upd_same]) T.cl_Disk T.na_Disk__octets (by simp) ?_
      rw [df2]
      walk_at "kp"
      intro e he
      have nde : d ≠ e := ne_of_none upd_same he
      have nle : l ≠ e := ne_of_none (by rw [upd_ne ndl.symm, upd_same]) he
      walk_at "kp"
      refine w_fldS (by rw [upd_ne nde, upd_same]) T.cl_Disk T.na_Disk__events (by simp) ?_
      rw [df3]
      have e4 := ((e3.trans (Kp.set (o := HO.ins C_Disk dx [("cells", .ref c), ("_octets", .ref l)]) (show (upd (upd H1 d (.ins C_Disk dx [("cells", .ref c)])) l (.lst (cells.map V.int))) d = _ by rw [upd_ne ndl, upd_same]) rfl (by simp))).trans (Kp.new (o := HO.lst []) he)).trans (Kp.set (o := HO.ins C_Disk dx (df c l e)) (by rw [upd_ne nde, upd_same]) rfl (by simp))
      refine k l e _ ⟨⟨dx, upd_same⟩, e4.sqT hc, ?_, ⟨[], ?_, .nil⟩, nle⟩ e4 (e2.free hl) ?_
      · rw [upd_ne ndl.symm, upd_ne nle, upd_ne ndl.symm, upd_same]
        rfl
      · rw [upd_ne nde.symm, upd_same]
      · refine e3.free (H1 := upd (upd H1 d (.ins C_Disk dx [("cells", .ref c)])) l (.lst (cells.map V.int))) ?_
        rw [upd_ne nde.symm] at he
        exact he
theorem met_Disk_look (T : Txt K mg C_Disk C_Journal) : C8.Met P w K mg base 1 C_Disk "look" (spLook K C_Disk) [] := by
  refine mkMet T.cl_Disk T.d_Disk_look sc_Disk_look (fun vs H Q E h => ?_) (fun f cdv A outer s H vs Q E hr h => ?_)
  · obtain ⟨d, c, l, e, cells, evs, i, z, rfl, _⟩ := h; rfl
  · obtain ⟨d, c, l, e, cells, evs, i, z, rfl, D, hz, k⟩ := h
    refine ⟨_, (pss_one (ps_ret (pe_ix (KP.ix_listK K rfl) (KP.pe_fldK K rfl (pv 0) rfl) (pv 1) (fun _ _ => rfl)))), ?_⟩
    (simp only [n_Disk_look, KP.st_cons, KP.st_nilc, KP.st_nil]); (try dsimp only [L2.cxOf, L2.Cx.nox, L2.Cx.wish])
    walk_at "kp"
    obtain ⟨dx, hi⟩ := D.ins
    refine w_fldV hi T.cl_Disk T.na_Disk__octets (df_l _ _ _) ?_
    walk_at "kp"
    exact w_ixL (SqL.of D.oct) (v := .int z) (atI_nat (by rw [List.getElem?_map, hz]; rfl)) k
theorem met_Disk_put (T : Txt K mg C_Disk C_Journal) : C8.Met P w K mg base 1 C_Disk "put" (spPut K C_Disk) [] := by
  refine mkMet T.cl_Disk T.d_Disk_put sc_Disk_put (fun vs H Q E h => ?_) (fun f cdv A outer s H vs Q E hr h => ?_)
  · obtain ⟨d, c, l, e, cells, evs, i, o, rfl, _⟩ := h; rfl
  · obtain ⟨d, c, l, e, cells, evs, i, o, rfl, D, hi, hl, k⟩ := h
    refine ⟨_, (pss_cons (ps_asg (pv 2) (pg_sub (KP.pe_fldK K rfl (pv 0) rfl) (pv 1) set_list))
 (pss_one (ps_expr (KP.pe_bmK K rfl PySem.F.plainAttrs_list PySem.F.slot_list_append PySem.F.type_list_append mt_append (KP.pe_fldK K rfl (pv 0) rfl) (pa_cons (pe_tup (pa_cons (pv 1) (pa_cons (pv 2) pa_nil))) pa_nil))))), ?_⟩
    (simp only [n_Disk_put, KP.st_cons, KP.st_nilc, KP.st_nil]); (try dsimp only [L2.cxOf, L2.Cx.nox, L2.Cx.wish])
    walk_at "kp"
    obtain ⟨dx, hd⟩ := D.ins
    obtain ⟨ws, he, hall⟩ := D.evl
    refine w_fldV hd T.cl_Disk T.na_Disk__octets (df_l _ _ _) ?_
    walk_at "kp"
    refine w_setL (j := i) D.oct (by unfold ixN; rw [if_pos (by omega), if_pos (by rw [List.length_map, ap_length]; omega), Int.toNat_natCast]) ?_
    walk_at "kp"
    have e1 : Kp [l, e] H (upd H l (.lst (((ap cells evs).map V.int).set i (.int o)))) := Kp.set D.oct rfl (by simp)
    refine w_fldV (by rw [upd_ne D.ndl]; exact hd) T.cl_Disk T.na_Disk__events (df_e _ _ _) ?_
    have he1 : (upd H l (.lst (((ap cells evs).map V.int).set i (.int o)))) e = some (.lst ws) := by rw [upd_ne D.nle.symm]; exact he
    refine w_bmL he1 ?_
    walk_at "kp"
    intro p hp
    have nep : e ≠ p := ne_of_none he1 hp
    have nlp : l ≠ p := ne_of_none upd_same hp
    have e2 := e1.trans (Kp.new (o := HO.tup [.int i, .int o]) hp)
    walk_at "kp"
    refine w_append (by rw [upd_ne nep]; exact he1) (by rw [hall.length, sizeLine_eq]; omega) ?_
    have he2 : (upd (upd H l (.lst (((ap cells evs).map V.int).set i (.int o)))) p (.tup [.int i, .int o])) e = some (.lst ws) := by rw [upd_ne nep]; exact he1
    have e3 := e2.trans (Kp.set (o := HO.lst (ws ++ [.ref p])) he2 rfl (by simp))
    walk_at "kp"
    refine k _ ⟨⟨dx, ?_⟩, e3.sqT D.cel, ?_, ⟨ws ++ [.ref p], upd_same, (hall.kp e3).append (.cons (is_evS ?_) .nil)⟩, D.nle⟩ e3
    · exact e3.keep _ _ hd (by simp [D.ndl, D.nde])
    · rw [upd_ne D.nle, upd_ne nlp, upd_same, ap_append]
      show some (HO.lst (((ap cells evs).map V.int).set i (V.int o))) = some (HO.lst (((ap cells evs).set i o).map V.int))
      rw [List.map_set]
    · exact SqT.of (by rw [upd_ne nep.symm, upd_same])
theorem met_Disk_flush (T : Txt K mg C_Disk C_Journal) : C8.Met P w K mg base 1 C_Disk "flush" (spFlush K C_Disk) [] := by
  refine mkMet T.cl_Disk T.d_Disk_flush sc_Disk_flush (fun vs H Q E h => ?_) (fun f cdv A outer s H vs Q E hr h => ?_)
  · obtain ⟨d, c, l, e, cells, evs, rfl, _⟩ := h; rfl
  · obtain ⟨d, c, l, e, cells, evs, rfl, D, hl, k⟩ := h
    refine ⟨_, (pss_one (ps_expr (KP.pe_bmK K rfl PySem.F.plainAttrs_list PySem.F.slot_list_append PySem.F.type_list_append mt_append (KP.pe_fldK K rfl (pv 0) rfl) (pa_cons pe_non pa_nil)))), ?_⟩
    (simp only [n_Disk_flush, KP.st_cons, KP.st_nilc, KP.st_nil]); (try dsimp only [L2.cxOf, L2.Cx.nox, L2.Cx.wish])
    walk_at "kp"
    obtain ⟨dx, hd⟩ := D.ins
    obtain ⟨ws, he, hall⟩ := D.evl
    refine w_fldV hd T.cl_Disk T.na_Disk__events (df_e _ _ _) ?_
    refine w_bmL he ?_
    walk_at "kp"
    refine w_append he (by rw [hall.length, sizeLine_eq]; omega) ?_
    have e1 : Kp [l, e] H (upd H e (.lst (ws ++ [.non]))) := Kp.set he rfl (by simp)
    walk_at "kp"
    refine k _ ⟨⟨dx, e1.keep _ _ hd (by simp [D.ndl, D.nde])⟩, e1.sqT D.cel, ?_, ⟨ws ++ [.non], upd_same, (hall.kp e1).append (.cons is_evN .nil)⟩, D.nle⟩ e1
    rw [upd_ne D.nle, ap_append]
    exact D.oct
theorem met_Disk_events (T : Txt K mg C_Disk C_Journal) : C8.Met P w K mg base 1 C_Disk "events" (spEvents K C_Disk) [] := by
  refine mkMet T.cl_Disk T.d_Disk_events sc_Disk_events (fun vs H Q E h => ?_) (fun f cdv A outer s H vs Q E hr h => ?_)
  · obtain ⟨d, c, l, e, cells, evs, rfl, _⟩ := h; rfl
  · obtain ⟨d, c, l, e, cells, evs, rfl, D, k⟩ := h
    refine ⟨_, (pss_one (ps_ret (pe_callTy (KP.cq_tupleK K rfl) rfl T.m_tuple KP.bt_tuple (pa_cons (KP.pe_fldK K rfl (pv 0) rfl) pa_nil)))), ?_⟩
    (simp only [n_Disk_events, KP.st_cons, KP.st_nilc, KP.st_nil]); (try dsimp only [L2.cxOf, L2.Cx.nox, L2.Cx.wish])
    walk_at "kp"
    obtain ⟨dx, hd⟩ := D.ins
    obtain ⟨ws, he, hall⟩ := D.evl
    refine w_fldV hd T.cl_Disk T.na_Disk__events (df_e _ _ _) ?_
    walk_at "kp"
    refine w_tupL (SqL.of he) fun p hp => ?_
    exact k _ p (Kp.new hp) (is_tup (SqT.of upd_same) (hall.kp (M := []) (Kp.new hp)))
end
end K92
namespace K92
open PySem PySem.Spec PyProof.Rows L2 KP JM
open PySem.W (Datum Tup)
open C8 (fnScope fnBody fnArgs fnScope_by)
abbrev TT1 := Tup Int
def tups (rs : List (List Int)) : List TT1 := rs.map Tup.mk
def spHalf (K : PySem.W.Frag) (C : Addr) : Sp := fun vs H Q _ => ∃ (d c l e : Addr) (cells : List Int) (evs : List Ev) (s : Nat), vs = [.ref d, .int s] ∧ DiskR K C H d c l e cells evs ∧ 1 ≤ cells.length ∧ s ≤ 1000 ∧ Q (.int (half cells.length s : Nat)) H
def spFrom (K : PySem.W.Frag) (C : Addr) : Sp := fun vs H Q _ => ∃ (d c l e : Addr) (cells : List Int) (evs : List Ev) (k stop fin : Nat) (rs : List (List Int)), vs = [.ref d, .int k, .int stop] ∧ DiskR K C H d c l e cells evs ∧ stop ≤ cells.length ∧ cells.length ≤ 20000 ∧ Enc (ap cells evs) stop k rs fin ∧
  ∀ (H' : Hp) (p r : Addr) (ws : List V), Kp [] H H' → H r = none → H' p = some (.tup [.ref r, .int fin]) → H' r = some (.lst ws) → IsAll K H' ws (tups rs) → Q (.ref p) H'
def spNeed (K : PySem.W.Frag) : Sp := fun vs H Q _ => ∃ (v : V) (rs : List (List Int)), vs = [v] ∧ Is K H v (Tup.mk (tups rs)) ∧ rs.length ≤ 1000 ∧ ∀ H' : Hp, Kp [] H H' → Q (.int (needs rs : Nat)) H'
def spPutRec (K : PySem.W.Frag) (C : Addr) : Sp := fun vs H Q _ => ∃ (d c l e : Addr) (cells : List Int) (evs : List Ev) (k : Nat) (v : V) (r : List Int), vs = [.ref d, .int k, v] ∧ DiskR K C H d c l e cells evs ∧ Is K H v (Tup.mk r) ∧ k + 3 + r.length ≤ cells.length ∧ evs.length + r.length + 10 ≤ 1000000 ∧
  ∀ H' : Hp, DiskR K C H' d c l e cells (evs ++ recE k r) → Kp [l, e] H H' → Q (.int (k + 3 + r.length : Nat)) H'
def spPutEnd (K : PySem.W.Frag) (C : Addr) : Sp := fun vs H Q _ => ∃ (d c l e : Addr) (cells : List Int) (evs : List Ev) (k stop : Nat), vs = [.ref d, .int k, .int stop] ∧ DiskR K C H d c l e cells evs ∧ stop ≤ cells.length ∧ evs.length ≤ 1000000 ∧
  ∀ H' : Hp, DiskR K C H' d c l e cells (evs ++ endE k stop) → Kp [l, e] H H' → Q .non H'
section
variable {P : Program} {w : World} {K : PySem.W.Frag} {mg : Str → Option Value} {base : Heap} {C_Disk C_Journal : Addr}
theorem cal_half_start (T : Txt K mg C_Disk C_Journal) : C8.Cal P w K mg base 1 "half_start" (spHalf K C_Disk) [] := by
  refine mkCal T.d_half_start sc_half_start (fun vs H Q E h => ?_) (fun f cdv A outer s H vs Q E hr h => ?_)
  · obtain ⟨d, c, l, e, cells, evs, n, rfl, _⟩ := h; rfl
  · obtain ⟨d, c, l, e, cells, evs, n, rfl, D, h1, hn, k⟩ := h
    refine ⟨_, (pss_one (ps_ret (pe_op op_add pe_int (pe_op op_mul (pv 1) (pe_op op_fdiv (pe_op op_sub (pe_callB (KP.cq_lenK K rfl) rfl T.m_len KP.bt_len (pa_cons (KP.pe_fldK K rfl (pv 0) rfl) pa_nil)) pe_int) pe_int))))), ?_⟩
    (simp only [n_half_start, KP.st_cons, KP.st_nilc, KP.st_nil]); (try dsimp only [L2.cxOf, L2.Cx.nox, L2.Cx.wish])
    walk_at "kp"
    obtain ⟨dx, hd⟩ := D.ins
    refine w_fldV hd T.cl_Disk T.na_Disk_cells (df_c _ _ _) ?_
    walk_at "kp"
    refine w_lenT D.cel ?_
    walk_at "kp"
    rw [List.length_map]
    have e1 : (1 : Int) + (n : Int) * (((cells.length : Int) - 1) / 2) = ((half cells.length n : Nat) : Int) := by
      have e2 : ((cells.length : Int) - 1) / 2 = (((cells.length - 1) / 2 : Nat) : Int) := by omega
      rw [e2]
      unfold half
      rw [Int.natCast_add, Int.natCast_mul]
      rfl
    rw [e1]
    exact k
theorem cal_records_from (T : Txt K mg C_Disk C_Journal) : C8.Cal P w K mg base 2 "records_from" (spFrom K C_Disk) [] := by
  refine mkCal T.d_records_from sc_records_from (fun vs H Q E h => ?_) (fun f cdv A outer s H vs Q E hr h => ?_)
  · obtain ⟨d, c, l, e, cells, evs, k0, stop, fin, rs, rfl, _⟩ := h; rfl
  · obtain ⟨d, c, l, e, cells, evs, k0, stop, fin, rs, rfl, D, hst, hn, hE, k⟩ := h
    refine ⟨_, (pss_cons (ps_par (i := 3) (j := 4) rfl sc_records_from.nd rfl rfl (by decide) rfl rfl (pa_cons (pe_lst pa_nil) (pa_cons (pv 1) pa_nil)) rfl)
 (C8.pss_cut (ps_while PassesOwn.never (PW.pt (pw_and (pt_cmpR op_lt (pv 4) (pv 2) (nomark _)) (pw_and1 (pt_cmpR op_gt (C8.pe_mt (met_Disk_look T) hr (by decide) (pv 0) (pa_cons (pv 4) pa_nil)) pe_int (nomark _)))))
 (pss_cons (ps_set (i := 5) sc_records_from.nd rfl (by first | exact Or.inl rfl | exact Or.inr rfl) (pe_op op_add (pv 4) (C8.pe_gc rfl T.g_HEAD)))
 (pss_cons (ps_if (pt_cmpR op_gt (pv 5) (pv 2) (nomark _))
 (pss_one ps_never)
 pss_nil)
 (pss_cons (ps_set (i := 6) sc_records_from.nd rfl (by first | exact Or.inl rfl | exact Or.inr rfl) (pe_op op_add (pe_op op_add (pv 5) (pe_op op_mul (C8.pe_mt (met_Disk_look T) hr (by decide) (pv 0) (pa_cons (pe_op op_add (pv 4) pe_int) pa_nil)) (C8.pe_gc rfl T.g_OCTETS))) (C8.pe_mt (met_Disk_look T) hr (by decide) (pv 0) (pa_cons (pe_op op_add (pv 4) pe_int) pa_nil))))
 (pss_cons (ps_if (pt_cmpR op_gt (pv 6) (pv 2) (nomark _))
 (pss_one ps_never)
 pss_nil)
 (pss_cons (ps_expr (KP.pe_bmK K rfl PySem.F.plainAttrs_list PySem.F.slot_list_append PySem.F.type_list_append mt_append (pv 3) (pa_cons (pe_callTy (KP.cq_tupleK K rfl) rfl T.m_tuple KP.bt_tuple (pa_cons (pe_lc (own := [("place", 7)]) rfl sc_records_from.nd (pi_range2 rfl T.m_range (pa_cons (pv 5) (pa_cons (pv 6) pa_nil)))
 (blkOk_by (N := n_records_from) (sc := fnScope s_records_from) (by decide +kernel)) (fun _ _ _ _ _ => (pg_name (i := 7) sc_records_from.nd rfl (by first | exact Or.inl rfl | exact Or.inr rfl))) (fun _ _ _ _ _ => pts_nil) (fun _ _ _ _ _ => (C8.pe_mt (met_Disk_look T) hr (by decide) (pv 0) (pa_cons (pv 7) pa_nil)))) pa_nil)) pa_nil)))
 (pss_one (ps_set (i := 4) sc_records_from.nd rfl (by first | exact Or.inl rfl | exact Or.inr rfl) (pv 6)))))))))
 (pss_one (ps_ret (pe_tup (pa_cons (pv 3) (pa_cons (pv 4) pa_nil))))))), ?_⟩
    (simp only [n_records_from, KP.st_cons, KP.st_nilc, KP.st_nil]); (try dsimp only [L2.cxOf, L2.Cx.nox, L2.Cx.wish])
    walk_at "kp"
    intro L hL
    walk_at "kp"
    have hle := hE.le
    refine w_cut (fun σ' H1 => ∃ (y5 y6 : Option V) (ws : List V), σ' = [some (.ref d), some (.int k0), some (.int stop), some (.ref L), some (.int fin), y5, y6, none] ∧ Kp [] H H1 ∧ H1 L = some (.lst ws) ∧ IsAll K H1 ws (tups rs)) ?_ ?_
    · refine w_whileQ (fun m σ' H1 => ∃ (a : Nat) (done rest : List (List Int)) (y5 y6 : Option V) (ws : List V), m = stop - a ∧ rs = done ++ rest ∧ Enc (ap cells evs) stop a rest fin ∧ σ' = [some (.ref d), some (.int k0), some (.int stop), some (.ref L), some (.int a), y5, y6, none] ∧ Kp [] H H1 ∧ H1 L = some (.lst ws) ∧ IsAll K H1 ws (tups done)) _ ⟨k0, [], rs, none, none, [], rfl, rfl, hE, rfl, Kp.new hL, upd_same, .nil⟩ ?_
      rintro m σ' H1 Qt ⟨a, done, rest, y5, y6, ws, rfl, hrs, hEr, rfl, e1, hw, hall⟩ qT qF
      have D1 := D.kp e1 (by simp) (by simp) (by simp)
      obtain ⟨dx1, hd1⟩ := D1.ins
      have hle2 := hEr.le
      walk_at "kp"
      cases hEr with
      | fin hk h0 =>
        rw [List.append_nil] at hrs
        subst hrs
        refine w_itD (fun hlt => ?_) (fun hlt => ?_)
        · walk_at "kp"
          refine w_methV hd1 (df_look _ _ _) ?_
          walk_at "kp"
          refine ⟨d, c, l, e, cells, evs, fin, 0, rfl, D1, h0 (by omega), ?_⟩
          walk_at "kp"
          exact qF _ ⟨_, _, ws, rfl, e1, hw, hall⟩
        · exact qF _ ⟨_, _, ws, rfl, e1, hw, hall⟩
      | @one _ _ m r rest hm h0 h1 h2 hr' hb ht =>
        have hrl : r.length < 65536 := by omega
        rw [decide_eq_true (by omega)]
        walk_at "kp"
        refine w_methV hd1 (df_look _ _ _) ?_
        walk_at "kp"
        refine ⟨d, c, l, e, cells, evs, a, m, rfl, D1, hm, ?_⟩
        walk_at "kp"
        rw [decide_eq_true h0]
        refine qT _ ?_
        walk_at "kp"
        rw [decide_eq_false (by omega)]
        walk_at "kp"
        refine w_methV hd1 (df_look _ _ _) ?_
        walk_at "kp"
        refine ⟨d, c, l, e, cells, evs, a + 1, _, by simp, D1, h1, ?_⟩
        walk_at "kp"
        refine w_methV hd1 (df_look _ _ _) ?_
        walk_at "kp"
        refine ⟨d, c, l, e, cells, evs, a + 2, _, by simp, D1, h2, ?_⟩
        walk_at "kp"
        have eb : (a : Int) + 3 + ((r.length / 256 : Nat) : Int) * 256 + ((r.length % 256 : Nat) : Int) = ((a + 3 + r.length : Nat) : Int) := by omega
        rw [eb]
        walk_at "kp"
        rw [decide_eq_false (by omega)]
        walk_at "kp"
        refine w_bmL hw ?_
        walk_at "kp"
        refine w_lcR2V K r.length (by omega) (by omega) Int [] (fun _ => True) (fun i acc => acc = r.take i) (by omega) (by simp) True.intro (fun _ _ _ _ _ => True.intro) rfl (fun i acc H2 QE QF hi e2 _ hj hl1 kE kF => ?_) ?_
        · have D2 := D1.kp e2 (by simp) (by simp) (by simp)
          obtain ⟨dx2, hd2⟩ := D2.ins
          walk_at "kp"
          refine ⟨rfl, ?_⟩
          walk_at "kp"
          refine w_methV hd2 (df_look _ _ _) ?_
          walk_at "kp"
          refine ⟨d, c, l, e, cells, evs, a + 3 + i, r[i], by simp, D2, hr' i _ (by simp [hi]), ?_⟩
          refine kE _ _ _ Kp.refl True.intro (is_int _) ?_
          rw [hj, List.take_add_one]
          simp [hi]
        · intro D' vs2 ys H2 hD' e2 _ hj hlen hall2 hH2
          have hv := hall2.ints
          subst hv
          rw [List.take_length] at hj
          subst hj
          walk_at "kp"
          refine w_tupL (SqL.of hH2) fun p hp => ?_
          walk_at "kp"
          have hw2 : H2 L = some (.lst ws) := e2.keep _ _ hw (by simp)
          have npL : L ≠ p := ne_of_none hw2 hp
          refine w_append (by rw [upd_ne npL]; exact hw2) ?_ ?_
          · rw [hall.length, sizeLine_eq]
            have := hE.count
            rw [hrs] at this
            simp [tups] at this ⊢
            omega
          have e3 : Kp [] H (upd (upd H2 p (.tup (ys.map V.int))) L (.lst (ws ++ [.ref p]))) := ((e1.trans e2).trans (Kp.new hp)).mut hL
          have e4 : Kp [L] H1 (upd (upd H2 p (.tup (ys.map V.int))) L (.lst (ws ++ [.ref p]))) := (e2.trans (Kp.new hp)).wide.trans (Kp.set (by rw [upd_ne npL]; exact hw2) rfl (by simp))
          walk_at "kp"
          refine ⟨stop - (a + 3 + ys.length), by omega, a + 3 + ys.length, done ++ [ys], rest, _, _, ws ++ [.ref p], rfl, by simp [hrs], ht, rfl, e3, upd_same, ?_⟩
          unfold tups
          rw [List.map_append]
          refine (hall.kp e4).append (.cons (is_tup (SqT.of ?_) (isAll_ints _)) .nil)
          rw [upd_ne npL.symm, upd_same]
    · rintro σ' H1 ⟨y5, y6, ws, rfl, e1, hw, hall⟩
      walk_at "kp"
      intro p hp
      have npL : L ≠ p := ne_of_none hw hp
      exact k _ p L ws (e1.trans (Kp.new hp)) hL upd_same (by rw [upd_ne npL]; exact hw) (hall.kp (M := []) (Kp.new hp))
theorem cal_needed_cells (T : Txt K mg C_Disk C_Journal) : C8.Cal P w K mg base 1 "needed_cells" (spNeed K) [] := by
  refine mkCal T.d_needed_cells sc_needed_cells (fun vs H Q E h => ?_) (fun f cdv A outer s H vs Q E hr h => ?_)
  · obtain ⟨v, rs, rfl, _⟩ := h; rfl
  · obtain ⟨v, rs, rfl, hv, hl, k⟩ := h
    refine ⟨_, (pss_one (ps_ret (pe_callB (KP.cr_sumK K rfl rfl) rfl T.m_sum KP.bt_sum (pa_cons (pe_lc (own := [("record", 1)]) rfl sc_needed_cells.nd (KP.pi_tupK K rfl (pv 0))
 (blkOk_by (N := n_needed_cells) (sc := fnScope s_needed_cells) (by decide +kernel)) (fun _ _ _ _ _ => (pg_name (i := 1) sc_needed_cells.nd rfl (by first | exact Or.inl rfl | exact Or.inr rfl))) (fun _ _ _ _ _ => pts_nil) (fun _ _ _ _ _ => (pe_op op_add (C8.pe_gc rfl T.g_HEAD) (pe_callB (KP.cq_lenK K rfl) rfl T.m_len KP.bt_len (pa_cons (pv 1) pa_nil))))) pa_nil)))), ?_⟩
    (simp only [n_needed_cells, KP.st_cons, KP.st_nilc, KP.st_nil]); (try dsimp only [L2.cxOf, L2.Cx.nox, L2.Cx.wish])
    walk_at "kp"
    obtain ⟨p, ws, rfl, hp, hall⟩ := hv.tupm
    have hwl : ws.length = rs.length := by rw [hall.length]; simp [tups]
    refine w_lcTV hp Int [] (fun _ => True) (fun i acc => acc = (rs.take i).map fun r => ((need r : Nat) : Int)) (by omega) (by simp) True.intro (fun _ _ _ _ _ => True.intro) rfl (fun i x acc H2 QE QF hx e2 _ hj hl1 kE kF => ?_) ?_
    · obtain ⟨y, hy, hxy⟩ := hall.get hx
      obtain ⟨r, hr1, rfl⟩ : ∃ r, rs[i]? = some r ∧ y = Tup.mk r := by
        unfold tups at hy
        rw [List.getElem?_map] at hy
        cases hq : rs[i]? with
        | none => rw [hq] at hy; cases hy
        | some r => rw [hq] at hy; exact ⟨r, rfl, (Option.some.inj hy).symm⟩
      obtain ⟨q, us, rfl, hq, hu⟩ := (hxy.kp e2).tup
      walk_at "kp"
      refine ⟨rfl, ?_⟩
      walk_at "kp"
      refine w_lenT hq ?_
      walk_at "kp"
      refine kE _ (need r : Nat) _ Kp.refl True.intro ?_ ?_
      · rw [hu.length]
        show Is K H2 (.int (3 + (r.length : Int))) _
        have : (3 : Int) + (r.length : Int) = ((need r : Nat) : Int) := by unfold need; omega
        rw [this]
        exact is_int _
      · rw [hj, List.take_add_one, hr1]
        simp
    · intro D' vs2 ys H2 hD' e2 _ hj hlen hall2 hH2
      have hv := hall2.ints
      subst hv
      walk_at "kp"
      refine w_sum (SqL.of hH2) ?_
      rw [hwl, List.take_length] at hj
      have es : ys.sum = ((needs rs : Nat) : Int) := by rw [hj]; exact needs_int rs
      rw [es]
      exact k _ e2
theorem cal_put_record (T : Txt K mg C_Disk C_Journal) : C8.Cal P w K mg base 2 "put_record" (spPutRec K C_Disk) [] := by
  refine mkCal T.d_put_record sc_put_record (fun vs H Q E h => ?_) (fun f cdv A outer s H vs Q E hr h => ?_)
  · obtain ⟨d, c, l, e, cells, evs, k, v, r, rfl, _⟩ := h; rfl
  · obtain ⟨d, c, l, e, cells, evs, k0, v, r, rfl, D, hv, hk, hl, k⟩ := h
    refine ⟨_, (pss_cons (ps_expr (C8.pe_mt (met_Disk_put T) hr (by decide) (pv 0) (pa_cons (pe_op op_add (pv 1) pe_int) (pa_cons (pe_op op_fdiv (pe_callB (KP.cq_lenK K rfl) rfl T.m_len KP.bt_len (pa_cons (pv 2) pa_nil)) (C8.pe_gc rfl T.g_OCTETS)) pa_nil))))
 (pss_cons (ps_expr (C8.pe_mt (met_Disk_put T) hr (by decide) (pv 0) (pa_cons (pe_op op_add (pv 1) pe_int) (pa_cons (pe_op op_mod (pe_callB (KP.cq_lenK K rfl) rfl T.m_len KP.bt_len (pa_cons (pv 2) pa_nil)) (C8.pe_gc rfl T.g_OCTETS)) pa_nil))))
 (C8.pss_cut (ps_for PassesOwn.never rfl (KP.pi_enumTK K rfl rfl T.m_enumerate (pa_cons (pv 2) pa_nil)) (KP.pg_tupK K rfl rfl (pgs_cons (pg_name (i := 3) sc_put_record.nd rfl (by first | exact Or.inl rfl | exact Or.inr rfl)) (pgs_cons (pg_name (i := 4) sc_put_record.nd rfl (by first | exact Or.inl rfl | exact Or.inr rfl)) pgs_nil)))
 (pss_one (ps_expr (C8.pe_mt (met_Disk_put T) hr (by decide) (pv 0) (pa_cons (pe_op op_add (pe_op op_add (pv 1) (C8.pe_gc rfl T.g_HEAD)) (pv 3)) (pa_cons (pv 4) pa_nil))))))
 (pss_one (ps_ret (pe_op op_add (pe_op op_add (pv 1) (C8.pe_gc rfl T.g_HEAD)) (pe_callB (KP.cq_lenK K rfl) rfl T.m_len KP.bt_len (pa_cons (pv 2) pa_nil)))))))), ?_⟩
    (simp only [n_put_record, KP.st_cons, KP.st_nilc, KP.st_nil]); (try dsimp only [L2.cxOf, L2.Cx.nox, L2.Cx.wish])
    obtain ⟨q, us, rfl, hq, hu⟩ := hv.tupm
    have hus := hu.ints
    subst hus
    obtain ⟨dx, hd⟩ := D.ins
    walk_at "kp"
    refine w_methV hd (df_put _ _ _) ?_
    walk_at "kp"
    refine w_lenT hq ?_
    walk_at "kp"
    refine ⟨d, c, l, e, cells, evs, k0 + 1, ((r.length / 256 : Nat) : Int), by simp, D, by omega, by omega, fun H1 D1 e1 => ?_⟩
    walk_at "kp"
    obtain ⟨dx1, hd1⟩ := D1.ins
    refine w_methV hd1 (df_put _ _ _) ?_
    walk_at "kp"
    refine w_lenT (e1.sqT hq) ?_
    walk_at "kp"
    refine ⟨d, c, l, e, cells, _, k0 + 2, ((r.length % 256 : Nat) : Int), by simp, D1, by omega, by simp; omega, fun H2 D2 e2 => ?_⟩
    have e12 := e1.trans e2
    walk_at "kp"
    have hsz : ∀ i, (bodyE (k0 + 3) (r.take i)).length ≤ r.length := fun i => by
      have : ∀ (xs : List Int) (k : Nat), (bodyE k xs).length = xs.length := fun xs => by
        induction xs with
        | nil => intro k; rfl
        | cons x xs ih => intro k; show (bodyE (k + 1) xs).length + 1 = _; rw [ih]; rfl
      rw [this, List.length_take]
      exact Nat.min_le_right _ _
    refine w_cut (fun σ' H' => ∃ (y3 y4 : Option V), σ' = [some (.ref d), some (.int k0), some (.ref q), y3, y4] ∧ DiskR K C_Disk H' d c l e cells (evs ++ recE k0 r) ∧ Kp [l, e] H H') ?_ ?_
    · walk_at "kp"
      refine w_lpET (e12.sqT hq) (fun i σ' H' => ∃ (y3 y4 : Option V), σ' = [some (.ref d), some (.int k0), some (.ref q), y3, y4] ∧ DiskR K C_Disk H' d c l e cells (evs ++ [some (k0 + 1, ((r.length / 256 : Nat) : Int))] ++ [some (k0 + 2, ((r.length % 256 : Nat) : Int))] ++ bodyE (k0 + 3) (r.take i)) ∧ Kp [l, e] H H') ⟨_, _, rfl, by simpa [bodyE] using D2, e12⟩ (fun i σ' H' _ h => by obtain ⟨_, _, _, _, e3⟩ := h; exact e3.sqT hq) (fun i x σ' H' p hx h hp => ?_) (fun σ' H' h => ?_)
      · obtain ⟨y3, y4, rfl, D3, e3⟩ := h
        obtain ⟨o, rfl, ho⟩ := int_at' hx
        have hi : i < r.length := (List.getElem?_eq_some_iff.mp ho).1
        refine w_gTup (SqT.of upd_same) rfl ?_
        walk_at "kp"
        have D4 := D3.kp (M := []) (Kp.new (o := HO.tup [.int (i : Nat), .int o]) hp) (by simp) (by simp) (by simp)
        obtain ⟨dx4, hd4⟩ := D4.ins
        refine w_methV hd4 (df_put _ _ _) ?_
        walk_at "kp"
        refine ⟨d, c, l, e, cells, _, k0 + 3 + i, o, by simp, D4, by omega, by have := hsz i; simp; omega, fun H5 D5 e5 => ?_⟩
        refine ⟨_, _, rfl, ?_, (e3.trans (Kp.new hp)).trans e5⟩
        have et : r.take (i + 1) = r.take i ++ [o] := by rw [List.take_add_one, ho]; rfl
        rw [et, bodyE_snoc, List.length_take, Nat.min_eq_left (by omega), ← List.append_assoc]
        exact D5
      · obtain ⟨y3, y4, rfl, D3, e3⟩ := h
        refine ⟨y3, y4, rfl, ?_, e3⟩
        rw [List.length_map, List.take_length] at D3
        unfold recE
        simpa using D3
    · rintro σ' H' ⟨y3, y4, rfl, D3, e3⟩
      walk_at "kp"
      refine w_lenT (e3.sqT hq) ?_
      walk_at "kp"
      rw [List.length_map]
      have := k _ D3 e3
      have en : (k0 : Int) + 3 + (r.length : Int) = ((k0 + 3 + r.length : Nat) : Int) := by omega
      rw [en]
      exact this
theorem cal_put_end (T : Txt K mg C_Disk C_Journal) : C8.Cal P w K mg base 2 "put_end" (spPutEnd K C_Disk) [] := by
  refine mkCal T.d_put_end sc_put_end (fun vs H Q E h => ?_) (fun f cdv A outer s H vs Q E hr h => ?_)
  · obtain ⟨d, c, l, e, cells, evs, k, stop, rfl, _⟩ := h; rfl
  · obtain ⟨d, c, l, e, cells, evs, k0, stop, rfl, D, hs, hl, k⟩ := h
    refine ⟨_, (pss_one (ps_if (pt_cmpR op_lt (pv 1) (pv 2) (nomark _))
 (pss_one (ps_expr (C8.pe_mt (met_Disk_put T) hr (by decide) (pv 0) (pa_cons (pv 1) (pa_cons pe_int pa_nil)))))
 pss_nil)), ?_⟩
    (simp only [n_put_end, KP.st_cons, KP.st_nilc, KP.st_nil]); (try dsimp only [L2.cxOf, L2.Cx.nox, L2.Cx.wish])
    walk_at "kp"
    obtain ⟨dx, hd⟩ := D.ins
    refine w_itD (fun hlt => ?_) (fun hlt => ?_)
    · walk_at "kp"
      refine w_methV hd (df_put _ _ _) ?_
      walk_at "kp"
      refine ⟨d, c, l, e, cells, evs, k0, 0, rfl, D, by omega, hl, fun H1 D1 e1 => ?_⟩
      walk_at "kp"
      refine k _ ?_ e1
      unfold endE
      rw [if_pos (by omega)]
      exact D1
    · walk_at "kp"
      refine k _ ?_ Kp.refl
      unfold endE
      rw [if_neg (by omega), List.append_nil]
      exact D
end
end K92
namespace K92
open PySem PySem.Spec PyProof.Rows L2 KP JM
open PySem.W (Datum Tup)
open C8 (fnScope fnBody fnArgs fnScope_by)
def jf (d : Addr) (s : Nat) (r : Addr) (fin : Nat) : List (Str × V) := [("disk", .ref d), ("_side", .int s), ("_records", .ref r), ("_end", .int fin)]
section
variable (d r : Addr) (s fin : Nat)
theorem jf_d : (jf d s r fin).lookup ("disk" : Str) = some (V.ref d) := by kernel_rfl
theorem jf_s : (jf d s r fin).lookup ("_side" : Str) = some (V.int s) := by kernel_rfl
theorem jf_r : (jf d s r fin).lookup ("_records" : Str) = some (V.ref r) := by kernel_rfl
theorem jf_e : (jf d s r fin).lookup ("_end" : Str) = some (V.int fin) := by kernel_rfl
theorem jf_records : (jf d s r fin).lookup ("records" : Str) = none := by kernel_rfl
theorem jf_write : (jf d s r fin).lookup ("write" : Str) = none := by kernel_rfl
theorem jf_renew : (jf d s r fin).lookup ("renew" : Str) = none := by kernel_rfl
theorem jf1 : putF ("disk" : Str) (V.ref d) [] = ([("disk", V.ref d)] : List (Str × V)) := by kernel_rfl
theorem jf2 (z : Int) : putF ("_side" : Str) (V.int z) [("disk", V.ref d)] = ([("disk", V.ref d), ("_side", V.int z)] : List (Str × V)) := by kernel_rfl
theorem jf3 (z : Int) : putF ("_records" : Str) (V.ref r) [("disk", V.ref d), ("_side", V.int z)] = ([("disk", V.ref d), ("_side", V.int z), ("_records", V.ref r)] : List (Str × V)) := by kernel_rfl
theorem jf4 (z f : Int) : putF ("_end" : Str) (V.int f) [("disk", V.ref d), ("_side", V.int z), ("_records", V.ref r)] = ([("disk", V.ref d), ("_side", V.int z), ("_records", V.ref r), ("_end", V.int f)] : List (Str × V)) := by kernel_rfl
theorem jf_pe (f : Nat) : putF ("_end" : Str) (V.int f) (jf d s r fin) = jf d s r f := by kernel_rfl
theorem jf_ps (f : Nat) : putF ("_side" : Str) (V.int f) (jf d s r fin) = jf d f r fin := by kernel_rfl
theorem jf_pr (q : Addr) : putF ("_records" : Str) (V.ref q) (jf d s r fin) = jf d s q fin := by kernel_rfl
theorem l2_d (z : Int) : ([("disk", V.ref d), ("_side", V.int z)] : List (Str × V)).lookup ("_side" : Str) = some (V.int z) := by kernel_rfl
end
structure JR (K : PySem.W.Frag) (CD CJ : Addr) (H : Hp) (j d c l e r : Addr) (cells : List Int) (evs : List Ev) (s : Nat) (rs : List (List Int)) (fin : Nat) : Prop where
  disk : DiskR K CD H d c l e cells evs
  ins : ∃ dx, H j = some (.ins CJ dx (jf d s r fin))
  recs : ∃ ws, H r = some (.lst ws) ∧ IsAll K H ws (tups rs)
  njd : j ≠ d
  nrl : r ≠ l
  nre : r ≠ e
  enc : Enc (ap cells evs) (half cells.length (s + 1)) (half cells.length s) rs fin
  hs : s ≤ 1
  n1 : 1 ≤ cells.length
  n2 : cells.length ≤ 20000
section
variable {K : PySem.W.Frag} {CD CJ : Addr} {H H' : Hp} {j d c l e r : Addr} {cells : List Int} {evs : List Ev} {s : Nat} {rs : List (List Int)} {fin : Nat} {M : List Addr}
theorem JR.kp (J : JR K CD CJ H j d c l e r cells evs s rs fin) (k : Kp M H H') (hj : j ∉ M) (hd : d ∉ M) (hl : l ∉ M) (he : e ∉ M) (hr : r ∉ M) : JR K CD CJ H' j d c l e r cells evs s rs fin := by
  obtain ⟨D, ⟨dx, h1⟩, ⟨ws, h2, h3⟩, a1, a2, a3, a4, a5, a6, a7⟩ := J
  exact ⟨D.kp k hd hl he, ⟨dx, k.keep _ _ h1 hj⟩, ⟨ws, k.keep _ _ h2 hr, h3.kp k⟩, a1, a2, a3, a4, a5, a6, a7⟩
theorem JR.njl (J : JR K CD CJ H j d c l e r cells evs s rs fin) : j ≠ l := by
  obtain ⟨dx, h⟩ := J.ins
  exact ne_of h J.disk.oct (by intro q; cases q)
theorem JR.nje (J : JR K CD CJ H j d c l e r cells evs s rs fin) : j ≠ e := by
  obtain ⟨dx, h⟩ := J.ins
  obtain ⟨ws, h2, _⟩ := J.disk.evl
  exact ne_of h h2 (by intro q; cases q)
theorem JR.njr (J : JR K CD CJ H j d c l e r cells evs s rs fin) : j ≠ r := by
  obtain ⟨dx, h⟩ := J.ins
  obtain ⟨ws, h2, _⟩ := J.recs
  exact ne_of h h2 (by intro q; cases q)
theorem JR.ndr (J : JR K CD CJ H j d c l e r cells evs s rs fin) : d ≠ r := by
  obtain ⟨dx, h⟩ := J.disk.ins
  obtain ⟨ws, h2, _⟩ := J.recs
  exact ne_of h h2 (by intro q; cases q)
end
def spJournal (K : PySem.W.Frag) (CD CJ : Addr) : Sp := fun vs H Q _ => ∃ (j dx d c l e : Addr) (cells : List Int) (evs : List Ev) (o : Int) (s : Nat) (rs : List (List Int)) (fin : Nat), vs = [.ref j, .ref d] ∧ H j = some (.ins CJ dx []) ∧ DiskR K CD H d c l e cells evs ∧ 1 ≤ cells.length ∧ cells.length ≤ 20000 ∧
  (ap cells evs)[0]? = some o ∧ o % 2 = (s : Int) ∧ Enc (ap cells evs) (half cells.length (s + 1)) (half cells.length s) rs fin ∧
  ∀ (H' : Hp) (r : Addr), JR K CD CJ H' j d c l e r cells evs s rs fin → Kp [j] H H' → H r = none → Q .non H'
def spRecords (K : PySem.W.Frag) (CD CJ : Addr) : Sp := fun vs H Q _ => ∃ (j d c l e r : Addr) (cells : List Int) (evs : List Ev) (s : Nat) (rs : List (List Int)) (fin : Nat), vs = [.ref j] ∧ JR K CD CJ H j d c l e r cells evs s rs fin ∧
  ∀ (H' : Hp) (p : Addr), Kp [] H H' → Is K H' (.ref p) (Tup.mk (tups rs)) → Q (.ref p) H'
def spWrite (K : PySem.W.Frag) (CD CJ : Addr) : Sp := fun vs H Q _ => ∃ (j d c l e r : Addr) (cells : List Int) (evs : List Ev) (s : Nat) (rs : List (List Int)) (fin : Nat) (v : V) (x : List Int), vs = [.ref j, v] ∧ JR K CD CJ H j d c l e r cells evs s rs fin ∧ Is K H v (Tup.mk x) ∧
  fin + 3 + x.length ≤ half cells.length (s + 1) ∧ evs.length + x.length + 100 ≤ 1000000 ∧
  ∀ H' : Hp, JR K CD CJ H' j d c l e r cells (evs ++ wE fin (half cells.length (s + 1)) x) s (rs ++ [x]) (fin + 3 + x.length) → Kp [l, e, j, r] H H' → Q .non H'
def spRenew (K : PySem.W.Frag) (CD CJ : Addr) : Sp := fun vs H Q _ => ∃ (j d c l e r : Addr) (cells : List Int) (evs : List Ev) (s : Nat) (rs : List (List Int)) (fin : Nat) (v : V) (qs : List (List Int)), vs = [.ref j, v] ∧ JR K CD CJ H j d c l e r cells evs s rs fin ∧ Is K H v (Tup.mk (tups qs)) ∧
  half cells.length (1 - s) + needs qs ≤ half cells.length (1 - s + 1) ∧ qs.length ≤ 1000 ∧ evs.length + needs qs + 100 ≤ 1000000 ∧
  ∀ (H' : Hp) (r' : Addr), JR K CD CJ H' j d c l e r' cells (evs ++ rE (half cells.length (1 - s)) (half cells.length (1 - s + 1)) (1 - s) qs) (1 - s) qs (half cells.length (1 - s) + needs qs) → Kp [l, e, j] H H' → H r' = none → Q .non H'
section
variable {P : Program} {w : World} {K : PySem.W.Frag} {mg : Str → Option Value} {base : Heap} {C_Disk C_Journal : Addr}
theorem mak_Journal (T : Txt K mg C_Disk C_Journal) : C8.Mak P w K mg base 3 "Journal" C_Journal (spJournal K C_Disk C_Journal) [] := by
  refine mkMak T.k_Journal sc_Journal___init__ (fun vs H Q E h => ?_) (fun f cdv A outer s H vs Q E hr h => ?_)
  · obtain ⟨j, dx, d, c, l, e, cells, evs, o, n, rs, fin, rfl, _⟩ := h; rfl
  · obtain ⟨j, dx, d, c, l, e, cells, evs, o, n, rs, fin, rfl, hj, D, h1, h2, h0, ho, hE, k⟩ := h
    refine ⟨_, (pss_cons (KP.ps_fldK K rfl (pv 0) (pv 1) rfl)
 (pss_cons (KP.ps_fldK K rfl (pv 0) (pe_op op_mod (C8.pe_mt (met_Disk_look T) hr (by decide) (pv 1) (pa_cons pe_int pa_nil)) pe_int) rfl)
 (pss_one (ps_asg (C8.pe_c (cal_records_from T) hr (by decide) rfl (pa_cons (pv 1) (pa_cons (C8.pe_c (cal_half_start T) hr (by decide) rfl (pa_cons (pv 1) (pa_cons (KP.pe_fldK K rfl (pv 0) rfl) pa_nil))) (pa_cons (C8.pe_c (cal_half_start T) hr (by decide) rfl (pa_cons (pv 1) (pa_cons (pe_op op_add (KP.pe_fldK K rfl (pv 0) rfl) pe_int) pa_nil))) pa_nil)))) (KP.pg_tupK K rfl rfl (pgs_cons (KP.pg_fldK K rfl (pv 0)) (pgs_cons (KP.pg_fldK K rfl (pv 0)) pgs_nil))))))), ?_⟩
    (simp only [n_Journal___init__, KP.st_cons, KP.st_nilc, KP.st_nil]); (try dsimp only [L2.cxOf, L2.Cx.nox, L2.Cx.wish])
    walk_at "kp"
    refine w_fldS hj T.cl_Journal T.na_Journal_disk (by decide) ?_
    rw [jf1]
    obtain ⟨dxd, hd⟩ := D.ins
    have njd : j ≠ d := ne_of hj hd (by intro q; cases q)
    have njl : j ≠ l := ne_of hj D.oct (by intro q; cases q)
    have nje : j ≠ e := by
      obtain ⟨ws, he, _⟩ := D.evl
      exact ne_of hj he (by intro q; cases q)
    have e1 : Kp [j] H (upd H j (.ins C_Journal dx [("disk", .ref d)])) := Kp.set hj rfl (by simp)
    have D1 := D.kp e1 (by simp [njd.symm]) (by simp [njl.symm]) (by simp [nje.symm])
    walk_at "kp"
    obtain ⟨dx1, hd1⟩ := D1.ins
    refine w_methV hd1 (df_look _ _ _) ?_
    walk_at "kp"
    refine ⟨d, c, l, e, cells, evs, 0, o, rfl, D1, h0, ?_⟩
    walk_at "kp"
    refine w_fldS upd_same T.cl_Journal T.na_Journal__side (by simp) ?_
    rw [jf2, upd_upd, ho]
    have e2 : Kp [j] H (upd H j (.ins C_Journal dx [("disk", .ref d), ("_side", .int n)])) := Kp.set hj rfl (by simp)
    have D2 := D.kp e2 (by simp [njd.symm]) (by simp [njl.symm]) (by simp [nje.symm])
    have n1 : n ≤ 1 := by omega
    walk_at "kp"
    refine w_fldV upd_same T.cl_Journal T.na_Journal__side (l2_d _ _) ?_
    walk_at "kp"
    refine ⟨d, c, l, e, cells, evs, n, rfl, D2, h1, by omega, ?_⟩
    walk_at "kp"
    refine w_fldV upd_same T.cl_Journal T.na_Journal__side (l2_d _ _) ?_
    walk_at "kp"
    refine ⟨d, c, l, e, cells, evs, n + 1, by simp, D2, h1, by omega, ?_⟩
    walk_at "kp"
    refine ⟨d, c, l, e, cells, evs, half cells.length n, half cells.length (n + 1), fin, rs, rfl, D2, half_le (by omega) h1, h2, hE, fun H3 p r ws e3 hr0 hp hr3 hall => ?_⟩
    walk_at "kp"
    refine w_gTup (SqT.of hp) rfl ?_
    walk_at "kp"
    have hj3 : H3 j = some (.ins C_Journal dx [("disk", .ref d), ("_side", .int n)]) := e3.keep _ _ upd_same (by simp)
    refine w_fldS hj3 T.cl_Journal T.na_Journal__records (by simp) ?_
    rw [jf3]
    walk_at "kp"
    refine w_fldS upd_same T.cl_Journal T.na_Journal__end (by simp) ?_
    rw [jf4, upd_upd]
    have nrj : r ≠ j := ne_free (H := upd H j (.ins C_Journal dx [("disk", .ref d), ("_side", .int n)])) ⟨_, upd_same⟩ hr0
    have hr00 : H r = none := e2.free hr0
    have e4 : Kp [j] H3 (upd H3 j (.ins C_Journal dx [("disk", .ref d), ("_side", .int n), ("_records", .ref r), ("_end", .int fin)])) := Kp.set hj3 rfl (by simp)
    have e5 := (e2.trans e3.wide).trans e4
    walk_at "kp"
    refine k _ r ⟨D.kp e5 (by simp [njd.symm]) (by simp [njl.symm]) (by simp [nje.symm]), ⟨dx, upd_same⟩, ⟨ws, by rw [upd_ne nrj]; exact hr3, hall.kp e4⟩, njd, ne_free D.dl hr00, ne_free D.de hr00, hE, n1, h1, h2⟩ e5 hr00
theorem met_Journal_records (T : Txt K mg C_Disk C_Journal) : C8.Met P w K mg base 1 C_Journal "records" (spRecords K C_Disk C_Journal) [] := by
  refine mkMet T.cl_Journal T.d_Journal_records sc_Journal_records (fun vs H Q E h => ?_) (fun f cdv A outer s H vs Q E hr h => ?_)
  · obtain ⟨j, d, c, l, e, r, cells, evs, n, rs, fin, rfl, _⟩ := h; rfl
  · obtain ⟨j, d, c, l, e, r, cells, evs, n, rs, fin, rfl, J, k⟩ := h
    refine ⟨_, (pss_one (ps_ret (pe_callTy (KP.cq_tupleK K rfl) rfl T.m_tuple KP.bt_tuple (pa_cons (KP.pe_fldK K rfl (pv 0) rfl) pa_nil)))), ?_⟩
    (simp only [n_Journal_records, KP.st_cons, KP.st_nilc, KP.st_nil]); (try dsimp only [L2.cxOf, L2.Cx.nox, L2.Cx.wish])
    obtain ⟨dx, hj⟩ := J.ins
    obtain ⟨ws, hr1, hall⟩ := J.recs
    walk_at "kp"
    refine w_fldV hj T.cl_Journal T.na_Journal__records (jf_r _ _ _ _) ?_
    walk_at "kp"
    refine w_tupL (SqL.of hr1) fun p hp => ?_
    exact k _ p (Kp.new hp) (is_tup (SqT.of upd_same) (hall.kp (M := []) (Kp.new hp)))
theorem met_Journal_write (T : Txt K mg C_Disk C_Journal) : C8.Met P w K mg base 3 C_Journal "write" (spWrite K C_Disk C_Journal) [] := by
  refine mkMet T.cl_Journal T.d_Journal_write sc_Journal_write (fun vs H Q E h => ?_) (fun f cdv A outer s H vs Q E hr h => ?_)
  · obtain ⟨j, d, c, l, e, r, cells, evs, n, rs, fin, v, x, rfl, _⟩ := h; rfl
  · obtain ⟨j, d, c, l, e, r, cells, evs, n, rs, fin, v, x, rfl, J, hx, hfit, hl, k⟩ := h
    refine ⟨_, (pss_cons (ps_par (i := 2) (j := 3) rfl sc_Journal_write.nd rfl rfl (by decide) rfl rfl (pa_cons (KP.pe_fldK K rfl (pv 0) rfl) (pa_cons (C8.pe_c (cal_half_start T) hr (by decide) rfl (pa_cons (KP.pe_fldK K rfl (pv 0) rfl) (pa_cons (pe_op op_add (KP.pe_fldK K rfl (pv 0) rfl) pe_int) pa_nil))) pa_nil)) rfl)
 (pss_cons (ps_if (pt_cmpR op_gt (pe_op op_add (pv 2) (C8.pe_c (cal_needed_cells T) hr (by decide) rfl (pa_cons (pe_tup (pa_cons (pv 1) pa_nil)) pa_nil))) (pv 3) (nomark _))
 (pss_one ps_never)
 pss_nil)
 (pss_cons (ps_set (i := 4) sc_Journal_write.nd rfl (by first | exact Or.inl rfl | exact Or.inr rfl) (C8.pe_c (cal_put_record T) hr (by decide) rfl (pa_cons (KP.pe_fldK K rfl (pv 0) rfl) (pa_cons (pv 2) (pa_cons (pv 1) pa_nil)))))
 (pss_cons (ps_expr (C8.pe_c (cal_put_end T) hr (by decide) rfl (pa_cons (KP.pe_fldK K rfl (pv 0) rfl) (pa_cons (pv 4) (pa_cons (pv 3) pa_nil)))))
 (pss_cons (ps_expr (C8.pe_mt0 (met_Disk_flush T) hr (by decide) (KP.pe_fldK K rfl (pv 0) rfl)))
 (pss_cons (ps_expr (C8.pe_mt (met_Disk_put T) hr (by decide) (KP.pe_fldK K rfl (pv 0) rfl) (pa_cons (pv 2) (pa_cons (C8.pe_gc rfl T.g_MARK) pa_nil))))
 (pss_cons (ps_expr (C8.pe_mt0 (met_Disk_flush T) hr (by decide) (KP.pe_fldK K rfl (pv 0) rfl)))
 (pss_cons (ps_expr (KP.pe_bmK K rfl PySem.F.plainAttrs_list PySem.F.slot_list_append PySem.F.type_list_append mt_append (KP.pe_fldK K rfl (pv 0) rfl) (pa_cons (pv 1) pa_nil)))
 (pss_one (KP.ps_fldK K rfl (pv 0) (pv 4) rfl)))))))))), ?_⟩
    (simp only [n_Journal_write, KP.st_cons, KP.st_nilc, KP.st_nil]); (try dsimp only [L2.cxOf, L2.Cx.nox, L2.Cx.wish])
    obtain ⟨dx, hj⟩ := J.ins
    obtain ⟨ws, hr1, hall⟩ := J.recs
    obtain ⟨px, us, rfl, hpx, hux⟩ := hx.tupm
    have D := J.disk
    have hle : half cells.length (n + 1) ≤ cells.length := half_le (by have := J.hs; omega) J.n1
    have hs := J.hs
    walk_at "kp"
    refine w_fldV hj T.cl_Journal T.na_Journal__end (jf_e _ _ _ _) ?_
    walk_at "kp"
    refine w_fldV hj T.cl_Journal T.na_Journal_disk (jf_d _ _ _ _) ?_
    walk_at "kp"
    refine w_fldV hj T.cl_Journal T.na_Journal__side (jf_s _ _ _ _) ?_
    walk_at "kp"
    refine ⟨d, c, l, e, cells, evs, n + 1, by simp, D, J.n1, by omega, ?_⟩
    walk_at "kp"
    intro q hq
    walk_at "kp"
    refine ⟨_, [x], rfl, is_tup (SqT.of upd_same) (.cons ((is_tup hpx hux).kp (M := []) (Kp.new hq)) .nil), by simp, fun H1 e1 => ?_⟩
    have e01 : Kp [] H H1 := (Kp.new hq).trans e1
    walk_at "kp"
    have hnd : needs [x] = 3 + x.length := by simp [needs, need]
    rw [hnd, decide_eq_false (by omega)]
    walk_at "kp"
    have J1 := J.kp e01 (by simp) (by simp) (by simp) (by simp) (by simp)
    obtain ⟨dx1, hj1⟩ := J1.ins
    refine w_fldV hj1 T.cl_Journal T.na_Journal_disk (jf_d _ _ _ _) ?_
    walk_at "kp"
    refine ⟨d, c, l, e, cells, evs, fin, _, x, rfl, J1.disk, (is_tup hpx hux).kp e01, by omega, by omega, fun H2 D2 e2 => ?_⟩
    have njl := J.njl
    have nje := J.nje
    walk_at "kp"
    have hj2 := e2.keep _ _ hj1 (by simp [njl, nje])
    refine w_fldV hj2 T.cl_Journal T.na_Journal_disk (jf_d _ _ _ _) ?_
    walk_at "kp"
    have hbl : ∀ (xs : List Int) (k : Nat), (bodyE k xs).length = xs.length := fun xs => by
      induction xs with
      | nil => intro k; rfl
      | cons x xs ih => intro k; show (bodyE (k + 1) xs).length + 1 = _; rw [ih]; rfl
    have hrl : (recE fin x).length = x.length + 2 := by unfold recE; rw [List.length_append, hbl]; simp; omega
    have hel : (endE (fin + 3 + x.length) (half cells.length (n + 1))).length ≤ 1 := by unfold endE; split <;> simp
    refine ⟨d, c, l, e, cells, _, fin + 3 + x.length, half cells.length (n + 1), rfl, D2, hle, by simp [hrl]; omega, fun H3 D3 e3 => ?_⟩
    walk_at "kp"
    have hj3 := e3.keep _ _ hj2 (by simp [njl, nje])
    refine w_fldV hj3 T.cl_Journal T.na_Journal_disk (jf_d _ _ _ _) ?_
    obtain ⟨dx3, hd3⟩ := D3.ins
    refine w_methV hd3 (df_flush _ _ _) ?_
    walk_at "kp"
    refine ⟨d, c, l, e, cells, _, rfl, D3, by simp [hrl]; omega, fun H4 D4 e4 => ?_⟩
    walk_at "kp"
    have hj4 := e4.keep _ _ hj3 (by simp [njl, nje])
    refine w_fldV hj4 T.cl_Journal T.na_Journal_disk (jf_d _ _ _ _) ?_
    obtain ⟨dx4, hd4⟩ := D4.ins
    refine w_methV hd4 (df_put _ _ _) ?_
    walk_at "kp"
    refine ⟨d, c, l, e, cells, _, fin, 1, rfl, D4, by omega, by simp [hrl]; omega, fun H5 D5 e5 => ?_⟩
    walk_at "kp"
    have hj5 := e5.keep _ _ hj4 (by simp [njl, nje])
    refine w_fldV hj5 T.cl_Journal T.na_Journal_disk (jf_d _ _ _ _) ?_
    obtain ⟨dx5, hd5⟩ := D5.ins
    refine w_methV hd5 (df_flush _ _ _) ?_
    walk_at "kp"
    refine ⟨d, c, l, e, cells, _, rfl, D5, by simp [hrl]; omega, fun H6 D6 e6 => ?_⟩
    have e16 := (((e2.trans e3).trans e4).trans e5).trans e6
    have e06 := e01.wide.trans e16
    walk_at "kp"
    have hj6 := e6.keep _ _ hj5 (by simp [njl, nje])
    have hr6 := e06.keep _ _ hr1 (by simp [J.nrl, J.nre])
    refine w_fldV hj6 T.cl_Journal T.na_Journal__records (jf_r _ _ _ _) ?_
    refine w_bmL hr6 ?_
    walk_at "kp"
    have hcount := J.enc.count
    have hn2 := J.n2
    refine w_append hr6 (by rw [hall.length, sizeLine_eq]; simp [tups]; omega) ?_
    walk_at "kp"
    have hj7 : (upd H6 r (.lst (ws ++ [.ref px]))) j = some (.ins C_Journal dx1 (jf d n r fin)) := by rw [upd_ne J.njr]; exact hj6
    refine w_fldS hj7 T.cl_Journal T.na_Journal__end (by show 4 < 1000; decide) ?_
    have efin : (fin : Int) + 3 + (x.length : Int) = ((fin + 3 + x.length : Nat) : Int) := by omega
    rw [jf_pe]
    have e7 : Kp [j, r] H6 (upd (upd H6 r (.lst (ws ++ [.ref px]))) j (.ins C_Journal dx1 (jf d n r (fin + 3 + x.length)))) := (Kp.set hr6 rfl (by simp)).trans (Kp.set hj7 rfl (by simp))
    have e8 : Kp [l, e, j, r] H (upd (upd H6 r (.lst (ws ++ [.ref px]))) j (.ins C_Journal dx1 (jf d n r (fin + 3 + x.length)))) := (e06.mono (by simp)).trans (e7.mono (by simp))
    have eE : evs ++ recE fin x ++ endE (fin + 3 + x.length) (half cells.length (n + 1)) ++ [none] ++ [some (fin, 1)] ++ [none] = evs ++ wE fin (half cells.length (n + 1)) x := by simp [wE, wPre]
    rw [eE] at D6
    refine k _ ⟨D6.kp e7 (by simp [J.njd.symm, J.ndr]) (by simp [J.njl.symm, J.nrl.symm]) (by simp [J.nje.symm, J.nre.symm]), ⟨_, upd_same⟩, ⟨ws ++ [.ref px], by rw [upd_ne J.njr.symm, upd_same], ?_⟩, J.njd, J.nrl, J.nre, ?_, hs, J.n1, J.n2⟩ e8
    · unfold tups
      rw [List.map_append]
      exact (hall.kp e8).append (.cons ((is_tup hpx hux).kp e8) .nil)
    · rw [ap_append]
      have hnd2 := nodup_wE fin (half cells.length (n + 1)) x
      have hlen : (ap cells evs).length = cells.length := ap_length _ _
      refine enc_write J.enc hfit (m := 1) ?_ (by decide) (fun p hp => ?_) (fun i hi => ?_)
      · exact ap_in _ _ (fin, 1) hnd2 (by unfold wE; simp) (by show fin < _; omega)
      · exact ap_in _ _ p hnd2 (List.mem_append_left _ hp) (by have := puts_wPre (mem_puts hp); omega)
      · refine ap_out _ _ _ fun hm => ?_
        unfold wE at hm
        rw [puts_append, List.mem_append] at hm
        rcases hm with hm | hm
        · have := puts_wPre hm; omega
        · have : i = fin := by simpa [puts] using hm
          omega
theorem met_Journal_renew (T : Txt K mg C_Disk C_Journal) : C8.Met P w K mg base 3 C_Journal "renew" (spRenew K C_Disk C_Journal) [] := by
  refine mkMet T.cl_Journal T.d_Journal_renew sc_Journal_renew (fun vs H Q E h => ?_) (fun f cdv A outer s H vs Q E hr h => ?_)
  · obtain ⟨j, d, c, l, e, r, cells, evs, n, rs, fin, v, qs, rfl, _⟩ := h; rfl
  · obtain ⟨j, d, c, l, e, r, cells, evs, n, rs, fin, v, qs, rfl, J, hx, hfit, hql, hl, k⟩ := h
    refine ⟨_, (pss_cons (ps_set (i := 2) sc_Journal_renew.nd rfl (by first | exact Or.inl rfl | exact Or.inr rfl) (pe_op op_sub pe_int (KP.pe_fldK K rfl (pv 0) rfl)))
 (pss_cons (ps_par (i := 3) (j := 4) rfl sc_Journal_renew.nd rfl rfl (by decide) rfl rfl (pa_cons (C8.pe_c (cal_half_start T) hr (by decide) rfl (pa_cons (KP.pe_fldK K rfl (pv 0) rfl) (pa_cons (pv 2) pa_nil))) (pa_cons (C8.pe_c (cal_half_start T) hr (by decide) rfl (pa_cons (KP.pe_fldK K rfl (pv 0) rfl) (pa_cons (pe_op op_add (pv 2) pe_int) pa_nil))) pa_nil)) rfl)
 (pss_cons (ps_if (pt_cmpR op_gt (pe_op op_add (pv 3) (C8.pe_c (cal_needed_cells T) hr (by decide) rfl (pa_cons (pv 1) pa_nil))) (pv 4) (nomark _))
 (pss_one ps_never)
 pss_nil)
 (C8.pss_cut (ps_for PassesOwn.never rfl (KP.pi_tupK K rfl (pv 1)) (pg_name (i := 5) sc_Journal_renew.nd rfl (by first | exact Or.inl rfl | exact Or.inr rfl))
 (pss_cons (ps_expr (C8.pe_mt (met_Disk_put T) hr (by decide) (KP.pe_fldK K rfl (pv 0) rfl) (pa_cons (pv 3) (pa_cons (C8.pe_gc rfl T.g_MARK) pa_nil))))
 (pss_one (ps_set (i := 3) sc_Journal_renew.nd rfl (by first | exact Or.inl rfl | exact Or.inr rfl) (C8.pe_c (cal_put_record T) hr (by decide) rfl (pa_cons (KP.pe_fldK K rfl (pv 0) rfl) (pa_cons (pv 3) (pa_cons (pv 5) pa_nil))))))))
 (pss_cons (ps_expr (C8.pe_c (cal_put_end T) hr (by decide) rfl (pa_cons (KP.pe_fldK K rfl (pv 0) rfl) (pa_cons (pv 3) (pa_cons (pv 4) pa_nil)))))
 (pss_cons (ps_expr (C8.pe_mt0 (met_Disk_flush T) hr (by decide) (KP.pe_fldK K rfl (pv 0) rfl)))
 (pss_cons (ps_expr (C8.pe_mt (met_Disk_put T) hr (by decide) (KP.pe_fldK K rfl (pv 0) rfl) (pa_cons pe_int (pa_cons (pv 2) pa_nil))))
 (pss_cons (ps_expr (C8.pe_mt0 (met_Disk_flush T) hr (by decide) (KP.pe_fldK K rfl (pv 0) rfl)))
 (pss_one (ps_asg (pe_tup (pa_cons (pv 2) (pa_cons (pe_callTy (KP.cq_listK K rfl) rfl T.m_list KP.bt_list (pa_cons (pv 1) pa_nil)) (pa_cons (pv 3) pa_nil)))) (KP.pg_tupK K rfl rfl (pgs_cons (KP.pg_fldK K rfl (pv 0)) (pgs_cons (KP.pg_fldK K rfl (pv 0)) (pgs_cons (KP.pg_fldK K rfl (pv 0)) pgs_nil)))))))))))))), ?_⟩
    (simp only [n_Journal_renew, KP.st_cons, KP.st_nilc, KP.st_nil]); (try dsimp only [L2.cxOf, L2.Cx.nox, L2.Cx.wish])
    obtain ⟨dx, hj⟩ := J.ins
    obtain ⟨px, us, rfl, hpx, hux⟩ := hx.tupm
    have D := J.disk
    have hs := J.hs
    have hle : half cells.length (1 - n + 1) ≤ cells.length := half_le (by omega) J.n1
    have njl := J.njl
    have nje := J.nje
    walk_at "kp"
    refine w_fldV hj T.cl_Journal T.na_Journal__side (jf_s _ _ _ _) ?_
    walk_at "kp"
    have en : (1 : Int) - (n : Int) = ((1 - n : Nat) : Int) := by omega
    rw [en]
    refine w_fldV hj T.cl_Journal T.na_Journal_disk (jf_d _ _ _ _) ?_
    walk_at "kp"
    refine ⟨d, c, l, e, cells, evs, 1 - n, rfl, D, J.n1, by omega, ?_⟩
    walk_at "kp"
    refine w_fldV hj T.cl_Journal T.na_Journal_disk (jf_d _ _ _ _) ?_
    walk_at "kp"
    refine ⟨d, c, l, e, cells, evs, 1 - n + 1, by simp, D, J.n1, by omega, ?_⟩
    walk_at "kp"
    refine ⟨_, qs, rfl, is_tup hpx hux, hql, fun H1 e1 => ?_⟩
    walk_at "kp"
    rw [decide_eq_false (by omega)]
    walk_at "kp"
    refine w_cut (fun σ' H' => ∃ (y5 : Option V), σ' = [some (.ref j), some (.ref px), some (.int (1 - n : Nat)), some (.int (half cells.length (1 - n) + needs qs : Nat)), some (.int (half cells.length (1 - n + 1) : Nat)), y5] ∧ DiskR K C_Disk H' d c l e cells (evs ++ recsE (half cells.length (1 - n)) qs) ∧ Kp [l, e] H H') ?_ ?_
    · walk_at "kp"
      refine w_lpT (e1.sqT hpx) (fun i σ' H' => ∃ (y5 : Option V), σ' = [some (.ref j), some (.ref px), some (.int (1 - n : Nat)), some (.int (half cells.length (1 - n) + needs (qs.take i) : Nat)), some (.int (half cells.length (1 - n + 1) : Nat)), y5] ∧ DiskR K C_Disk H' d c l e cells (evs ++ recsE (half cells.length (1 - n)) (qs.take i)) ∧ Kp [l, e] H H') ⟨none, rfl, by simpa [recsE] using D.kp e1 (by simp) (by simp) (by simp), e1.wide⟩ (fun i σ' H' _ h => by obtain ⟨_, _, _, e3⟩ := h; exact e3.sqT hpx) (fun i x σ' H' hxi h => ?_) (fun σ' H' h => ?_)
      · obtain ⟨y5, rfl, D3, e3⟩ := h
        obtain ⟨y, hy, hxy⟩ := hux.get hxi
        obtain ⟨q, hq1, rfl⟩ : ∃ r, qs[i]? = some r ∧ y = Tup.mk r := by
          unfold tups at hy
          rw [List.getElem?_map] at hy
          cases hq : qs[i]? with
          | none => rw [hq] at hy; cases hy
          | some r => rw [hq] at hy; exact ⟨r, rfl, (Option.some.inj hy).symm⟩
        have hi : i < qs.length := (List.getElem?_eq_some_iff.mp hq1).1
        have et : qs.take (i + 1) = qs.take i ++ [q] := by rw [List.take_add_one, hq1]; rfl
        have hnt := needs_take qs (i + 1)
        have hnt2 := needs_snoc (qs.take i) q
        rw [← et] at hnt2
        walk_at "kp"
        have hj3 := e3.keep _ _ hj (by simp [njl, nje])
        refine w_fldV hj3 T.cl_Journal T.na_Journal_disk (jf_d _ _ _ _) ?_
        obtain ⟨dx3, hd3⟩ := D3.ins
        refine w_methV hd3 (df_put _ _ _) ?_
        walk_at "kp"
        refine ⟨d, c, l, e, cells, _, half cells.length (1 - n) + needs (qs.take i), 1, rfl, D3, by omega, by rw [List.length_append, recsE_len]; omega, fun H4 D4 e4 => ?_⟩
        walk_at "kp"
        have hj4 := e4.keep _ _ hj3 (by simp [njl, nje])
        refine w_fldV hj4 T.cl_Journal T.na_Journal_disk (jf_d _ _ _ _) ?_
        walk_at "kp"
        refine ⟨d, c, l, e, cells, _, half cells.length (1 - n) + needs (qs.take i), _, q, rfl, D4, hxy.kp (e3.trans e4), by omega, by rw [List.length_append, List.length_append, recsE_len]; simp; omega, fun H5 D5 e5 => ?_⟩
        walk_at "kp"
        refine ⟨some x, ?_, ?_, (e3.trans e4).trans e5⟩
        · rw [hnt2]
          simp [Nat.add_assoc]
        · rw [et, recsE_snoc]
          simpa using D5
      · obtain ⟨y5, rfl, D3, e3⟩ := h
        have hul : us.length = qs.length := by rw [hux.length]; simp [tups]
        rw [hul, List.take_length] at D3 ⊢
        exact ⟨y5, rfl, D3, e3⟩
    · rintro σ' H2 ⟨y5, rfl, D2, e2⟩
      walk_at "kp"
      have hj2 := e2.keep _ _ hj (by simp [njl, nje])
      refine w_fldV hj2 T.cl_Journal T.na_Journal_disk (jf_d _ _ _ _) ?_
      walk_at "kp"
      have hel := endE_len (half cells.length (1 - n) + needs qs) (half cells.length (1 - n + 1))
      have hrl := recsE_len qs (half cells.length (1 - n))
      refine ⟨d, c, l, e, cells, _, half cells.length (1 - n) + needs qs, half cells.length (1 - n + 1), rfl, D2, hle, by rw [List.length_append, hrl]; omega, fun H3 D3 e3 => ?_⟩
      walk_at "kp"
      have hj3 := e3.keep _ _ hj2 (by simp [njl, nje])
      refine w_fldV hj3 T.cl_Journal T.na_Journal_disk (jf_d _ _ _ _) ?_
      obtain ⟨dx3, hd3⟩ := D3.ins
      refine w_methV hd3 (df_flush _ _ _) ?_
      walk_at "kp"
      refine ⟨d, c, l, e, cells, _, rfl, D3, by simp [hrl]; omega, fun H4 D4 e4 => ?_⟩
      walk_at "kp"
      have hj4 := e4.keep _ _ hj3 (by simp [njl, nje])
      refine w_fldV hj4 T.cl_Journal T.na_Journal_disk (jf_d _ _ _ _) ?_
      obtain ⟨dx4, hd4⟩ := D4.ins
      refine w_methV hd4 (df_put _ _ _) ?_
      walk_at "kp"
      refine ⟨d, c, l, e, cells, _, 0, ((1 - n : Nat) : Int), rfl, D4, by have := J.n1; omega, by simp [hrl]; omega, fun H5 D5 e5 => ?_⟩
      walk_at "kp"
      have hj5 := e5.keep _ _ hj4 (by simp [njl, nje])
      refine w_fldV hj5 T.cl_Journal T.na_Journal_disk (jf_d _ _ _ _) ?_
      obtain ⟨dx5, hd5⟩ := D5.ins
      refine w_methV hd5 (df_flush _ _ _) ?_
      walk_at "kp"
      refine ⟨d, c, l, e, cells, _, rfl, D5, by simp [hrl]; omega, fun H6 D6 e6 => ?_⟩
      have e06 := ((((e2.trans e3).trans e4).trans e5).trans e6)
      walk_at "kp"
      have hj6 := e6.keep _ _ hj5 (by simp [njl, nje])
      refine w_listT (e06.sqT hpx) fun r' hr' => ?_
      have hr0 : H r' = none := e06.free hr'
      have nj : j ≠ r' := ne_of_none hj6 hr'
      walk_at "kp"
      intro t ht
      have njt : j ≠ t := ne_of_none (by rw [upd_ne nj]; exact hj6) ht
      have nrt : r' ≠ t := ne_of_none upd_same ht
      walk_at "kp"
      refine w_gTup (SqT.of upd_same) rfl ?_
      walk_at "kp"
      have hjt : (upd (upd H6 r' (.lst us)) t (.tup [.int (1 - n : Nat), .ref r', .int (half cells.length (1 - n) + needs qs : Nat)])) j = some (.ins C_Journal dx (jf d n r fin)) := by rw [upd_ne njt, upd_ne nj]; exact hj6
      refine w_fldS hjt T.cl_Journal T.na_Journal__side (by show 4 < 1000; decide) ?_
      rw [jf_ps]
      walk_at "kp"
      refine w_fldS upd_same T.cl_Journal T.na_Journal__records (by show 4 < 1000; decide) ?_
      rw [jf_pr, upd_upd]
      walk_at "kp"
      refine w_fldS upd_same T.cl_Journal T.na_Journal__end (by show 4 < 1000; decide) ?_
      rw [jf_pe, upd_upd]
      walk_at "kp"
      have e7 : Kp [j] H6 (upd (upd (upd H6 r' (.lst us)) t (.tup [.int (1 - n : Nat), .ref r', .int (half cells.length (1 - n) + needs qs : Nat)])) j (.ins C_Journal dx (jf d (1 - n) r' (half cells.length (1 - n) + needs qs)))) := ((Kp.new hr').trans (Kp.new ht)).trans (Kp.set hjt rfl (by simp))
      have e8 := (e06.mono (N := [l, e, j]) (by simp)).trans (e7.mono (by simp))
      have eE : evs ++ recsE (half cells.length (1 - n)) qs ++ endE (half cells.length (1 - n) + needs qs) (half cells.length (1 - n + 1)) ++ [none] ++ [some (0, ((1 - n : Nat) : Int))] ++ [none] = evs ++ rE (half cells.length (1 - n)) (half cells.length (1 - n + 1)) (1 - n) qs := by simp [rE, rPre]
      rw [eE] at D6
      refine k _ r' ⟨D6.kp e7 (by simp [J.njd.symm]) (by simp [J.njl.symm]) (by simp [J.nje.symm]), ⟨_, upd_same⟩, ⟨us, ?_, hux.kp e8⟩, J.njd, ne_free D.dl hr0, ne_free D.de hr0, ?_, by omega, J.n1, J.n2⟩ e8 hr0
      · rw [upd_ne nj.symm, upd_ne nrt, upd_same]
      · rw [ap_append]
        exact (has_renew (ap_length _ _) J.n1 (by omega) hfit).2.1
end
end K92
namespace K92
open PySem PySem.Spec PyProof.Rows L2 KP JM
open PySem.W (Datum Tup)
open C8 (fnScope fnBody fnArgs fnScope_by)
def spIsRec (K : PySem.W.Frag) : Sp := fun vs H Q _ => ∃ (v u : V) (x y : List Int), vs = [v, u] ∧ Is K H v (Tup.mk x) ∧ Is K H u (Tup.mk y) ∧ y.length ≤ 100000 ∧ ∀ H' : Hp, Kp [] H H' → Q (.bl (decide (x = y))) H'
def spAreRecs (K : PySem.W.Frag) : Sp := fun vs H Q _ => ∃ (v u : V) (x y : List (List Int)), vs = [v, u] ∧ Is K H v (Tup.mk (tups x)) ∧ Is K H u (Tup.mk (tups y)) ∧ y.length ≤ 100000 ∧ (∀ r ∈ y, r.length ≤ 100000) ∧ ∀ H' : Hp, Kp [] H H' → Q (.bl (decide (x = y))) H'
def spRecord (K : PySem.W.Frag) : Sp := fun vs H Q _ => ∃ (a b : Addr) (n : Nat), vs = [.ref a, .int n] ∧ Rng H a b ∧ n ≤ 20000 ∧ ∀ (H' : Hp) (v : V) (x : List Int), Kp [a, b] H H' → Rng H' a b → Is K H' v (Tup.mk x) → x.length = n → (∀ z ∈ x, 0 ≤ z ∧ z < 256) → Q v H'
def spBase (K : PySem.W.Frag) : Sp := fun vs H Q _ => ∃ (v u : V) (cells : List Int) (evs : List Ev), vs = [v, u] ∧ Is K H v (Tup.mk cells) ∧ Is K H u (Tup.mk (evs ++ [none])) ∧ cells.length ≤ 20000 ∧ evs.length ≤ 100000 ∧ (∀ i ∈ puts evs, i < cells.length) ∧
  ∀ (H' : Hp) (p q : Addr), Kp [] H H' → H' p = some (.lst [.ref q, .int (evs.length + 1 : Nat)]) → Is K H' (.ref q) (Tup.mk (ap cells (evs ++ [none]))) → H p = none → Q (.ref p) H'
def spLeft (K : PySem.W.Frag) : Sp := fun vs H Q _ => ∃ (a b : Addr) (v u : V) (cells : List Int) (evs : List Ev), vs = [.ref a, v, u] ∧ Rng H a b ∧ Is K H v (Tup.mk cells) ∧ Is K H u (Tup.mk evs) ∧ cells.length ≤ 20000 ∧ evs.length ≤ 100000 ∧ (∀ z ∈ cells, 0 ≤ z ∧ z < 256) ∧ (∀ (i : Nat) (o : Int), some (i, o) ∈ evs → i < cells.length ∧ 0 ≤ o ∧ o < 256) ∧
  ∀ (H' : Hp) (w : V) (out : List Int), Kp [a, b] H H' → Rng H' a b → Is K H' w (Tup.mk out) → Left cells evs out → Q w H'
theorem take_eq {α : Type} [DecidableEq α] {x y : List α} {i : Nat} {a b : α} (hx : x[i]? = some a) (hy : y[i]? = some b) : decide (x.take (i + 1) = y.take (i + 1)) = (decide (x.take i = y.take i) && decide (a = b)) := by
  rw [List.take_add_one, List.take_add_one, hx, hy]
  have hl : (x.take i).length = (y.take i).length := by
    have h1 := (List.getElem?_eq_some_iff.mp hx).1
    have h2 := (List.getElem?_eq_some_iff.mp hy).1
    rw [List.length_take, List.length_take]; omega
  rw [← Bool.decide_and]
  refine decide_eq_decide.mpr ⟨fun h => ?_, fun h => by rw [h.1, h.2]⟩
  obtain ⟨h1, h2⟩ := List.append_inj h hl
  exact ⟨h1, by simpa using h2⟩
theorem all_snoc (acc : List Bool) (b : Bool) : (acc ++ [b]).all id = (acc.all id && b) := by simp
section
variable {P : Program} {w : World} {K : PySem.W.Frag} {mg : Str → Option Value} {base : Heap} {C_Disk C_Journal : Addr}
theorem cal__law_is_record (T : Txt K mg C_Disk C_Journal) : C8.Cal P w K mg base 1 "_law_is_record" (spIsRec K) [] := by
  refine mkCal T.d__law_is_record sc__law_is_record (fun vs H Q E h => ?_) (fun f cdv A outer s H vs Q E hr h => ?_)
  · obtain ⟨v, u, x, y, rfl, _⟩ := h; rfl
  · obtain ⟨v, u, x, y, rfl, hv, hu, hy, k⟩ := h
    refine ⟨_, (pss_cons (ps_if (PW.pt (pw_or (pt_not (pt_val (pe_callB (KP.call_isiK' K rfl) rfl T.m_isinstance KP.bt_isinstance (pa_cons (pv 0) (pa_cons (KP.pe_ty rfl T.m_tuple KP.bt_tuple) pa_nil))))) (pw_or1 (pt_cmpR op_ne (pe_callB (KP.cq_lenK K rfl) rfl T.m_len KP.bt_len (pa_cons (pv 0) pa_nil)) (pe_callB (KP.cq_lenK K rfl) rfl T.m_len KP.bt_len (pa_cons (pv 1) pa_nil)) (nomark _)))))
 (pss_one (ps_ret pe_bl))
 pss_nil)
 (pss_one (ps_ret (pe_callB (KP.cr_allK K rfl rfl) rfl T.m_all KP.bt_all (pa_cons (pe_lc (own := [("at", 2)]) rfl sc__law_is_record.nd (pi_range1 rfl T.m_range (pa_cons (pe_callB (KP.cq_lenK K rfl) rfl T.m_len KP.bt_len (pa_cons (pv 1) pa_nil)) pa_nil))
 (blkOk_by (N := n__law_is_record) (sc := fnScope s__law_is_record) (by decide +kernel)) (fun _ _ _ _ _ => (pg_name (i := 2) sc__law_is_record.nd rfl (by first | exact Or.inl rfl | exact Or.inr rfl))) (fun _ _ _ _ _ => pts_nil) (fun _ _ _ _ _ => (pe_and (pe_callB (KP.call_isiK' K rfl) rfl T.m_isinstance KP.bt_isinstance (pa_cons (pe_ix (KP.ix_tupK K rfl) (pv 0) (pv 2) (fun _ _ => rfl)) (pa_cons (KP.pe_ty rfl T.m_int KP.bt_int) pa_nil))) (pe_and (pe_not (pe_callB (KP.call_isiK' K rfl) rfl T.m_isinstance KP.bt_isinstance (pa_cons (pe_ix (KP.ix_tupK K rfl) (pv 0) (pv 2) (fun _ _ => rfl)) (pa_cons (KP.pe_ty rfl T.m_bool KP.bt_bool) pa_nil)))) (pe_one (pe_cmpR op_eq (pe_ix (KP.ix_tupK K rfl) (pv 0) (pv 2) (fun _ _ => rfl)) (pe_ix (KP.ix_tupK K rfl) (pv 1) (pv 2) (fun _ _ => rfl)) (nomark _))))))) pa_nil))))), ?_⟩
    (simp only [n__law_is_record, KP.st_cons, KP.st_nilc, KP.st_nil]); (try dsimp only [L2.cxOf, L2.Cx.nox, L2.Cx.wish])
    obtain ⟨p, ps, rfl, hp, hpa⟩ := hv.tupm
    obtain ⟨q, qs, rfl, hq, hqa⟩ := hu.tupm
    have e1 := hpa.ints
    have e2 := hqa.ints
    subst e1 e2
    walk_at "kp"
    refine w_isiTT hp ?_
    walk_at "kp"
    refine w_lenT hp ?_
    walk_at "kp"
    refine w_lenT hq ?_
    walk_at "kp"
    rw [List.length_map, List.length_map]
    refine w_itN (fun hne => ?_) (fun he => ?_)
    · walk_at "kp"
      have : decide (x = y) = false := decide_eq_false fun e => hne (by rw [e])
      rw [this] at k
      exact k _ Kp.refl
    · have he : ((x.length : Nat) : Int) = ((y.length : Nat) : Int) := he
      have hxy : x.length = y.length := by omega
      walk_at "kp"
      refine w_lenT hq ?_
      walk_at "kp"
      refine w_lcR1V K y.length (by rw [List.length_map]) Bool [] (fun _ => True) (fun i acc => acc.all id = decide (x.take i = y.take i)) (by omega) (by simp) True.intro (fun _ _ _ _ _ => True.intro) (by simp) (fun i acc H2 QE QF hi e2 _ hj hl1 kE kF => ?_) ?_
      · have gx : x[i]? = some x[i] := by simp [hxy, hi]
        have gy : y[i]? = some y[i] := by simp [hi]
        have hix : atI (x.map V.int) (i : Int) = some (.int x[i]) := atI_nat (by rw [List.getElem?_map, gx]; rfl)
        have hiy : atI (y.map V.int) (i : Int) = some (.int y[i]) := atI_nat (by rw [List.getElem?_map, gy]; rfl)
        walk_at "kp"
        refine ⟨rfl, ?_⟩
        walk_at "kp"
        refine w_ixT (e2.sqT hp) hix ?_
        walk_at "kp"
        refine w_ixT (e2.sqT hp) hix ?_
        walk_at "kp"
        refine w_ixT (e2.sqT hp) hix ?_
        walk_at "kp"
        refine w_ixT (e2.sqT hq) hiy ?_
        walk_at "kp"
        refine kE _ _ _ Kp.refl True.intro (is_bl _) ?_
        rw [all_snoc, hj, take_eq gx gy]
      · intro D' vs2 ys H2 hD' e2 _ hj hlen hall2 hH2
        have hv := hall2.bls
        subst hv
        walk_at "kp"
        refine w_all (SqL.of hH2) ?_
        rw [hj, List.take_of_length_le (by omega), List.take_of_length_le (by omega)]
        exact k _ e2
theorem cal__law_are_records (T : Txt K mg C_Disk C_Journal) : C8.Cal P w K mg base 2 "_law_are_records" (spAreRecs K) [] := by
  refine mkCal T.d__law_are_records sc__law_are_records (fun vs H Q E h => ?_) (fun f cdv A outer s H vs Q E hr h => ?_)
  · obtain ⟨v, u, x, y, rfl, _⟩ := h; rfl
  · obtain ⟨v, u, x, y, rfl, hv, hu, hy, hyr, k⟩ := h
    refine ⟨_, (pss_cons (ps_if (PW.pt (pw_or (pt_not (pt_val (pe_callB (KP.call_isiK' K rfl) rfl T.m_isinstance KP.bt_isinstance (pa_cons (pv 0) (pa_cons (KP.pe_ty rfl T.m_tuple KP.bt_tuple) pa_nil))))) (pw_or1 (pt_cmpR op_ne (pe_callB (KP.cq_lenK K rfl) rfl T.m_len KP.bt_len (pa_cons (pv 0) pa_nil)) (pe_callB (KP.cq_lenK K rfl) rfl T.m_len KP.bt_len (pa_cons (pv 1) pa_nil)) (nomark _)))))
 (pss_one (ps_ret pe_bl))
 pss_nil)
 (pss_one (ps_ret (pe_callB (KP.cr_allK K rfl rfl) rfl T.m_all KP.bt_all (pa_cons (pe_lc (own := [("at", 2)]) rfl sc__law_are_records.nd (pi_range1 rfl T.m_range (pa_cons (pe_callB (KP.cq_lenK K rfl) rfl T.m_len KP.bt_len (pa_cons (pv 1) pa_nil)) pa_nil))
 (blkOk_by (N := n__law_are_records) (sc := fnScope s__law_are_records) (by decide +kernel)) (fun _ _ _ _ _ => (pg_name (i := 2) sc__law_are_records.nd rfl (by first | exact Or.inl rfl | exact Or.inr rfl))) (fun _ _ _ _ _ => pts_nil) (fun _ _ _ _ _ => (C8.pe_c (cal__law_is_record T) hr (by decide) rfl (pa_cons (pe_ix (KP.ix_tupK K rfl) (pv 0) (pv 2) (fun _ _ => rfl)) (pa_cons (pe_ix (KP.ix_tupK K rfl) (pv 1) (pv 2) (fun _ _ => rfl)) pa_nil))))) pa_nil))))), ?_⟩
    (simp only [n__law_are_records, KP.st_cons, KP.st_nilc, KP.st_nil]); (try dsimp only [L2.cxOf, L2.Cx.nox, L2.Cx.wish])
    obtain ⟨p, ps, rfl, hp, hpa⟩ := hv.tupm
    obtain ⟨q, qs, rfl, hq, hqa⟩ := hu.tupm
    have lx : ps.length = x.length := by rw [hpa.length]; simp [tups]
    have ly : qs.length = y.length := by rw [hqa.length]; simp [tups]
    walk_at "kp"
    refine w_isiTT hp ?_
    walk_at "kp"
    refine w_lenT hp ?_
    walk_at "kp"
    refine w_lenT hq ?_
    walk_at "kp"
    rw [lx, ly]
    refine w_itN (fun hne => ?_) (fun he => ?_)
    · walk_at "kp"
      have : decide (x = y) = false := decide_eq_false fun e => hne (by rw [e])
      rw [this] at k
      exact k _ Kp.refl
    · have he : ((x.length : Nat) : Int) = ((y.length : Nat) : Int) := he
      have hxy : x.length = y.length := by omega
      walk_at "kp"
      refine w_lenT hq ?_
      walk_at "kp"
      refine w_lcR1V K y.length (by rw [ly]) Bool [] (fun _ => True) (fun i acc => acc.all id = decide (x.take i = y.take i)) (by omega) (by simp) True.intro (fun _ _ _ _ _ => True.intro) (by simp) (fun i acc H2 QE QF hi e2 _ hj hl1 kE kF => ?_) ?_
      · have gx : x[i]? = some x[i] := by simp [hxy, hi]
        have gy : y[i]? = some y[i] := by simp [hi]
        obtain ⟨a, ha, ia⟩ := hpa.get' (i := i) (x := Tup.mk x[i]) (by unfold tups; rw [List.getElem?_map, gx]; rfl)
        obtain ⟨b, hb, ib⟩ := hqa.get' (i := i) (x := Tup.mk y[i]) (by unfold tups; rw [List.getElem?_map, gy]; rfl)
        walk_at "kp"
        refine ⟨rfl, ?_⟩
        walk_at "kp"
        refine w_ixT (e2.sqT hp) (atI_nat ha) ?_
        walk_at "kp"
        refine w_ixT (e2.sqT hq) (atI_nat hb) ?_
        walk_at "kp"
        refine ⟨a, b, x[i], y[i], rfl, ia.kp e2, ib.kp e2, hyr _ (List.getElem_mem hi), fun H3 e3 => ?_⟩
        refine kE _ _ _ e3 True.intro (is_bl _) ?_
        rw [all_snoc, hj, take_eq gx gy]
      · intro D' vs2 ys H2 hD' e2 _ hj hlen hall2 hH2
        have hv := hall2.bls
        subst hv
        walk_at "kp"
        refine w_all (SqL.of hH2) ?_
        rw [hj, List.take_of_length_le (by omega), List.take_of_length_le (by omega)]
        exact k _ e2
theorem cal__law_record (T : Txt K mg C_Disk C_Journal) : C8.Cal P w K mg base 3 "_law_record" (spRecord K) [] := by
  refine mkCal T.d__law_record sc__law_record (fun vs H Q E h => ?_) (fun f cdv A outer s H vs Q E hr h => ?_)
  · obtain ⟨a, b, n, rfl, _⟩ := h; rfl
  · obtain ⟨a, b, n, rfl, R, hn, k⟩ := h
    refine ⟨_, (pss_cons (ps_asg (pe_tup (pa_cons (C8.pe_c (cal__law_draw T) hr (by decide) rfl (pa_cons (pv 0) (pa_cons pe_int pa_nil))) (pa_cons (C8.pe_c (cal__law_pick T) hr (by decide) rfl (pa_cons (pv 0) (pa_cons (pe_lst (pa_cons pe_int (pa_cons pe_int (pa_cons pe_int (pa_cons pe_int (pa_cons pe_int pa_nil)))))) pa_nil))) (pa_cons (C8.pe_c (cal__law_draw T) hr (by decide) rfl (pa_cons (pv 0) (pa_cons pe_int pa_nil))) pa_nil)))) (KP.pg_tupK K rfl rfl (pgs_cons (pg_name (i := 2) sc__law_record.nd rfl (by first | exact Or.inl rfl | exact Or.inr rfl)) (pgs_cons (pg_name (i := 3) sc__law_record.nd rfl (by first | exact Or.inl rfl | exact Or.inr rfl)) (pgs_cons (pg_name (i := 4) sc__law_record.nd rfl (by first | exact Or.inl rfl | exact Or.inr rfl)) pgs_nil)))))
 (pss_one (ps_ret (pe_callTy (KP.cq_tupleK K rfl) rfl T.m_tuple KP.bt_tuple (pa_cons (pe_lc (own := [("at", 5)]) rfl sc__law_record.nd (pi_range1 rfl T.m_range (pa_cons (pv 1) pa_nil))
 (blkOk_by (N := n__law_record) (sc := fnScope s__law_record) (by decide +kernel)) (fun _ _ _ _ _ => (pg_name (i := 5) sc__law_record.nd rfl (by first | exact Or.inl rfl | exact Or.inr rfl))) (fun _ _ _ _ _ => pts_nil) (fun _ _ _ _ _ => (pe_op op_mod (pe_callTy KP.cq_int rfl T.m_int KP.bt_int (pa_cons (pe_op op_add (pe_op op_add (pv 2) (pe_op op_mul (pv 5) (pv 3))) (pe_op op_mul (pv 4) (pe_op op_fdiv (pv 5) pe_int))) pa_nil)) pe_int))) pa_nil))))), ?_⟩
    (simp only [n__law_record, KP.st_cons, KP.st_nilc, KP.st_nil]); (try dsimp only [L2.cxOf, L2.Cx.nox, L2.Cx.wish])
    walk_at "kp"
    refine ⟨a, b, 256, rfl, R, by decide, by decide, fun z1 H1 z10 z11 e1 R1 => ?_⟩
    walk_at "kp"
    intro p hp
    have R1' := R1.new (o := HO.lst [.int 1, .int 0, .int 7, .int 255, .int 129]) hp
    walk_at "kp"
    refine ⟨a, b, p, _, rfl, R1', SqL.of upd_same, ne_free R1.da hp, ne_free R1.db hp, by simp, by simp, fun i v H2 hv e2 R2 => ?_⟩
    obtain ⟨st, rfl, hst⟩ : ∃ st : Int, v = .int st ∧ 0 ≤ st ∧ st ≤ 255 := by
      match i, hv with
      | 0, h => exact ⟨1, (Option.some.inj h).symm, by decide, by decide⟩
      | 1, h => exact ⟨0, (Option.some.inj h).symm, by decide, by decide⟩
      | 2, h => exact ⟨7, (Option.some.inj h).symm, by decide, by decide⟩
      | 3, h => exact ⟨255, (Option.some.inj h).symm, by decide, by decide⟩
      | 4, h => exact ⟨129, (Option.some.inj h).symm, by decide, by decide⟩
      | i + 5, h => simp at h
    walk_at "kp"
    refine ⟨a, b, 3, rfl, R2, by decide, by decide, fun z3 H3 z30 z31 e3 R3 => ?_⟩
    walk_at "kp"
    intro t ht
    have R3' := R3.new (o := HO.tup [.int z1, .int st, .int z3]) ht
    refine w_gTup (SqT.of upd_same) rfl ?_
    walk_at "kp"
    have e03 : Kp [a, b] H (upd H3 t (.tup [.int z1, .int st, .int z3])) := ((e1.trans (Kp.new hp)).trans e2).trans (e3.trans (Kp.new ht))
    refine w_lcR1V K n rfl Int [] (fun _ => True) (fun i acc => acc.length = i ∧ ∀ z ∈ acc, 0 ≤ z ∧ z < 256) (by omega) (by simp) True.intro (fun _ _ _ _ _ => True.intro) (by simp) (fun i acc H2 QE QF hi e2 _ hj hl1 kE kF => ?_) ?_
    · walk_at "kp"
      refine ⟨rfl, ?_⟩
      walk_at "kp"
      refine kE _ _ _ Kp.refl True.intro (is_int _) ⟨by simp [hj.1], fun z hz => ?_⟩
      rcases List.mem_append.mp hz with hz | hz
      · exact hj.2 z hz
      · have : z = (z1 + (i : Int) * st + z3 * ((i : Int) / 256)) % 256 := by simpa using hz
        rw [this]
        exact ⟨Int.emod_nonneg _ (by decide), Int.emod_lt_of_pos _ (by decide)⟩
    · intro D' vs2 ys H4 hD' e4 _ hj hlen hall2 hH4
      have hv := hall2.ints
      subst hv
      walk_at "kp"
      refine w_tupL (SqL.of hH4) fun q hq => ?_
      have e5 : Kp [a, b] H (upd H4 q (.tup (ys.map V.int))) := (e03.trans e4.wide).trans (Kp.new hq)
      exact k _ _ ys e5 ((R3'.kp e4 (by simp) (by simp)).new hq) (is_tup (SqT.of upd_same) (isAll_ints _)) hj.1 hj.2
end
end K92
namespace K92
open PySem PySem.Spec PyProof.Rows L2 KP JM
open PySem.W (Datum Tup)
open C8 (fnScope fnBody fnArgs fnScope_by)
theorem ixN_nat {n i : Nat} (h : i < n) : ixN n (i : Int) = some i := by unfold ixN; rw [if_pos (by omega), if_pos (by omega), Int.toNat_natCast]
def pI (ps : List Nat) : List V := ps.map fun i => V.int (i : Nat)
theorem pI_at {ps : List Nat} {i : Nat} {x : V} (h : (pI ps)[i]? = some x) : ∃ k, x = V.int (k : Nat) ∧ ps[i]? = some k := by
  unfold pI at h
  rw [List.getElem?_map] at h
  cases e : ps[i]? with
  | none => rw [e] at h; cases h
  | some c => rw [e] at h; exact ⟨c, (Option.some.inj h).symm, rfl⟩
/-- after some of the places have got their new octets -/
structure Mix (now old : List Int) (ps : List Nat) (out : List Int) : Prop where
  len : out.length = now.length
  inn : ∀ (i : Nat), i ∈ ps → out[i]? = now[i]?
  out : ∀ (i : Nat), i ∉ ps → out[i]? = old[i]?
theorem Mix.step {now old out : List Int} {ps : List Nat} {k : Nat} {z : Int} (h : Mix now old ps out) (hz : now[k]? = some z) : Mix now old (ps ++ [k]) (out.set k z) := by
  have hk : k < now.length := (List.getElem?_eq_some_iff.mp hz).1
  refine ⟨by rw [List.length_set]; exact h.len, fun i hi => ?_, fun i hi => ?_⟩
  · by_cases e : i = k
    · subst e
      rw [List.getElem?_set_self (by rw [h.len]; exact hk), hz]
    · rw [List.getElem?_set_ne (fun q => e q.symm)]
      rcases List.mem_append.mp hi with hi | hi
      · exact h.inn i hi
      · exact absurd (by simpa using hi) e
  · have e : i ≠ k := fun e => hi (by rw [e]; simp)
    rw [List.getElem?_set_ne (fun q => e q.symm)]
    exact h.out i fun m => hi (List.mem_append_left _ m)
theorem oct_set {xs : List Int} {k : Nat} {z : Int} (h : ∀ y ∈ xs, 0 ≤ y ∧ y < 256) (hz : 0 ≤ z ∧ z < 256) : ∀ y ∈ xs.set k z, 0 ≤ y ∧ y < 256 := fun y hy => by
  rcases List.mem_or_eq_of_mem_set hy with hy | hy
  · exact h y hy
  · rw [hy]; exact hz
theorem oct_ap : ∀ (evs : List Ev) (ns : List Int), (∀ z ∈ ns, 0 ≤ z ∧ z < 256) → (∀ (i : Nat) (o : Int), some (i, o) ∈ evs → 0 ≤ o ∧ o < 256) → ∀ z ∈ ap ns evs, 0 ≤ z ∧ z < 256
  | [], ns, h, _ => h
  | none :: r, ns, h, g => oct_ap r ns h fun i o m => g i o (List.mem_cons_of_mem _ m)
  | some p :: r, ns, h, g => oct_ap r (ns.set p.1 p.2) (oct_set h (g p.1 p.2 (List.mem_cons_self ..))) fun i o m => g i o (List.mem_cons_of_mem _ m)
section
variable {P : Program} {w : World} {K : PySem.W.Frag} {mg : Str → Option Value} {base : Heap} {C_Disk C_Journal : Addr}
theorem cal__law_base (T : Txt K mg C_Disk C_Journal) : C8.Cal P w K mg base 1 "_law_base" (spBase K) [] := by
  refine mkCal T.d__law_base sc__law_base (fun vs H Q E h => ?_) (fun f cdv A outer s H vs Q E hr h => ?_)
  · obtain ⟨v, u, cells, evs, rfl, _⟩ := h; rfl
  · obtain ⟨v, u, cells, evs, rfl, hv, hu, hc, hl, hp, k⟩ := h
    refine ⟨_, (pss_cons (ps_par (i := 2) (j := 3) rfl sc__law_base.nd rfl rfl (by decide) rfl rfl (pa_cons (pe_callB (KP.cr_maxK K rfl rfl) rfl T.m_max KP.bt_max (pa_cons (pe_op op_cat (pe_lst (pa_cons pe_int pa_nil)) (pe_lc (own := [("at", 5)]) rfl sc__law_base.nd (pi_range1 rfl T.m_range (pa_cons (pe_callB (KP.cq_lenK K rfl) rfl T.m_len KP.bt_len (pa_cons (pv 1) pa_nil)) pa_nil))
 (blkOk_by (N := n__law_base) (sc := fnScope s__law_base) (by decide +kernel)) (fun _ _ _ _ _ => (pg_name (i := 5) sc__law_base.nd rfl (by first | exact Or.inl rfl | exact Or.inr rfl))) (fun _ _ _ _ _ => (pts_one (pt_cmp (pc_isN (pe_ix (KP.ix_tupK K rfl) (pv 1) (pv 5) (fun _ _ => rfl)))))) (fun _ _ _ _ _ => (pe_op op_add (pv 5) pe_int)))) pa_nil)) (pa_cons (pe_callTy (KP.cq_listK K rfl) rfl T.m_list KP.bt_list (pa_cons (pv 0) pa_nil)) pa_nil)) rfl)
 (C8.pss_cut (ps_for PassesOwn.never rfl (KP.pi_tupK K rfl (pe_slice (KP.sl_tupAK K rfl) (pv 1) po_none (po_some (pv 2)))) (pg_name (i := 4) sc__law_base.nd rfl (by first | exact Or.inl rfl | exact Or.inr rfl))
 (pss_one (ps_if (pt_cmp (pc_notN (pv 4)))
 (pss_one (ps_asg (pe_ix (KP.ix_tupK K rfl) (pv 4) pe_int (fun _ _ => rfl)) (pg_sub (pv 3) (pe_ix (KP.ix_tupK K rfl) (pv 4) pe_int (fun _ _ => rfl)) set_list)))
 pss_nil)))
 (pss_one (ps_ret (pe_lst (pa_cons (pe_callTy (KP.cq_tupleK K rfl) rfl T.m_tuple KP.bt_tuple (pa_cons (pv 3) pa_nil)) (pa_cons (pv 2) pa_nil))))))), ?_⟩
    (simp only [n__law_base, KP.st_cons, KP.st_nilc, KP.st_nil]); (try dsimp only [L2.cxOf, L2.Cx.nox, L2.Cx.wish])
    obtain ⟨pc, pcs, rfl, hpc, hpca⟩ := hv.tupm
    obtain ⟨pe, pes, rfl, hpe, hpea⟩ := hu.tupm
    have e1 := hpca.ints
    subst e1
    have lpe : pes.length = evs.length + 1 := by rw [hpea.length]; simp
    walk_at "kp"
    intro z0 hz0
    walk_at "kp"
    have eH1 : Kp [] H (upd H z0 (.lst [.int 0])) := Kp.new hz0
    refine w_lenT (eH1.sqT hpe) ?_
    walk_at "kp"
    refine w_lcR1V K (evs.length + 1) (by rw [lpe]) Int [] (fun _ => True) (fun i acc => (∀ z ∈ acc, z ≤ (i : Int)) ∧ (i = evs.length + 1 → ((evs.length + 1 : Nat) : Int) ∈ acc)) (by omega) (by simp) True.intro (fun _ _ _ _ _ => True.intro) (by simp) (fun i acc H2 QE QF hi e2 _ hj hl1 kE kF => ?_) ?_
    · obtain ⟨ev0, ge⟩ : ∃ e, (evs ++ [none])[i]? = some e := get_some (by simp; omega)
      obtain ⟨x, hx, ix⟩ := hpea.get' ge
      walk_at "kp"
      refine ⟨rfl, ?_⟩
      walk_at "kp"
      refine w_ixT ((eH1.trans e2).sqT hpe) (atI_nat hx) ?_
      rcases ev_of ix with ⟨rfl, en⟩ | ⟨q, kk, oo, rfl, en, _⟩
      · walk_at "kp"
        refine kE _ ((i : Int) + 1) _ Kp.refl True.intro (is_int _) ⟨fun z hz => ?_, fun e => ?_⟩
        · rcases List.mem_append.mp hz with hz | hz
          · have := hj.1 z hz; omega
          · have : z = (i : Int) + 1 := by simpa using hz
            omega
        · have : ((evs.length + 1 : Nat) : Int) = (i : Int) + 1 := by omega
          rw [this]; simp
      · walk_at "kp"
        refine kF _ Kp.refl True.intro ⟨fun z hz => by have := hj.1 z hz; omega, fun e => ?_⟩
        exfalso
        have hie : i = evs.length := by omega
        subst hie
        rw [List.getElem?_append_right (by omega)] at ge
        rw [en] at ge
        simp at ge
    · intro D' vs2 ys H2 hD' e2 _ hj hlen hall2 hH2
      have hv := hall2.ints
      subst hv
      have hz2 : H2 z0 = some (.lst [.int 0]) := e2.keep _ _ upd_same (by simp)
      refine ⟨z0, D', _, _, rfl, rfl, hz2, hH2, by rw [sizeLine_eq]; simp; omega, fun m0 hm0 => ?_⟩
      have e3 : Kp [] H (upd H2 m0 (.lst ([.int 0] ++ ys.map V.int))) := (eH1.trans e2).trans (Kp.new hm0)
      walk_at "kp"
      refine ⟨m0, 0 :: ys, rfl, SqL.of upd_same, by simp, fun mx hmx hge => ?_⟩
      have hmx : mx = ((evs.length + 1 : Nat) : Int) := by
        have h1 : ((evs.length + 1 : Nat) : Int) ≤ mx := hge _ (List.mem_cons_of_mem _ (hj.2 rfl))
        rcases List.mem_cons.mp hmx with h | h
        · omega
        · have := hj.1 mx h; omega
      subst hmx
      walk_at "kp"
      refine w_listT (e3.sqT hpc) fun N hN => ?_
      have hN0 : H N = none := e3.free hN
      walk_at "kp"
      have e4 := e3.trans (Kp.new (o := HO.lst (cells.map V.int)) hN)
      refine w_cut (fun σ' H' => ∃ (y4 y5 : Option V), σ' = [some (.ref pc), some (.ref pe), some (.int (evs.length + 1 : Nat)), some (.ref N), y4, y5] ∧ H' N = some (.lst ((ap cells (evs ++ [none])).map V.int)) ∧ Kp [] H H') ?_ ?_
      · walk_at "kp"
        have hsl : HT.sIx pes.length pes.length (some ((evs.length + 1 : Nat) : Int)) = pes.length := by
          rw [← lpe]
          have := HT.sIx_nat pes.length pes.length pes.length
          rw [this, Nat.min_self]
        refine ⟨pe, pes, rfl, e4.sqT hpe, fun _ => ?_, fun hnw => absurd ⟨HT.sIx_none _ _, hsl⟩ hnw⟩
        refine w_lpT (e4.sqT hpe) (fun i σ' H' => ∃ (y4 y5 : Option V), σ' = [some (.ref pc), some (.ref pe), some (.int (evs.length + 1 : Nat)), some (.ref N), y4, y5] ∧ H' N = some (.lst ((ap cells ((evs ++ [none]).take i)).map V.int)) ∧ Kp [] H H') ⟨none, none, rfl, upd_same, e4⟩ (fun i σ' H' _ h => by obtain ⟨_, _, _, _, e5⟩ := h; exact e5.sqT hpe) (fun i x σ' H' hx h => ?_) (fun σ' H' h => ?_)
        · obtain ⟨y4, y5, rfl, hN', e5⟩ := h
          obtain ⟨ev, hev, ix⟩ := hpea.get hx
          have et : (evs ++ [none]).take (i + 1) = (evs ++ [none]).take i ++ [ev] := by rw [List.take_add_one, hev]; rfl
          walk_at "kp"
          rcases ev_of ix with ⟨rfl, rfl⟩ | ⟨q, kk, oo, rfl, rfl, hq⟩
          · walk_at "kp"
            refine ⟨_, _, rfl, ?_, e5⟩
            rw [et, ap_append]
            exact hN'
          · walk_at "kp"
            refine w_ixT (e5.sqT hq) (v := .int oo) (by rfl) ?_
            walk_at "kp"
            refine w_ixT (e5.sqT hq) (v := .int (kk : Nat)) (by rfl) ?_
            have hkk : kk < cells.length := by
              have : some (kk, oo) ∈ evs ++ [none] := List.mem_of_getElem? hev
              rcases List.mem_append.mp this with h | h
              · exact hp kk (mem_puts h)
              · simp at h
            refine w_setL (j := kk) hN' (ixN_nat (by rw [List.length_map, ap_length]; exact hkk)) ?_
            refine ⟨_, _, rfl, ?_, e5.mut hN0⟩
            rw [upd_same, et, ap_append, ← List.map_set]
            rfl
        · obtain ⟨y4, y5, rfl, hN', e5⟩ := h
          refine ⟨y4, y5, rfl, ?_, e5⟩
          rw [lpe, List.take_of_length_le (by simp)] at hN'
          exact hN'
      · rintro σ' H3 ⟨y4, y5, rfl, hN3, e5⟩
        walk_at "kp"
        refine w_tupL (SqL.of hN3) fun q hq => ?_
        walk_at "kp"
        intro r hr1
        have nqr : q ≠ r := ne_of_none upd_same hr1
        have e6 := (e5.trans (Kp.new (o := HO.tup ((ap cells (evs ++ [none])).map V.int)) hq)).trans (Kp.new (o := HO.lst [.ref q, .int (evs.length + 1 : Nat)]) hr1)
        exact k _ r q e6 upd_same (is_tup (SqT.of (by rw [upd_ne nqr, upd_same])) (isAll_ints _)) ((e5.trans (Kp.new hq)).free hr1)
end
end K92
namespace K92
open PySem PySem.Spec PyProof.Rows L2 KP JM
open PySem.W (Datum Tup)
open C8 (fnScope fnBody fnArgs fnScope_by)
/-- now, lasts, pending as they stand behind some events -/
structure LS (H0 H : Hp) (base : List Int) (evs : List Ev) (N L Pn : Addr) (lasts : List Int) : Prop where
  hN : H N = some (.lst ((ap base evs).map V.int))
  hL : H L = some (.lst (lasts.map V.int))
  hP : H Pn = some (.lst (pI (pend evs)))
  nNL : N ≠ L
  nNP : N ≠ Pn
  nLP : L ≠ Pn
  len : lasts.length = base.length
  oct : ∀ z ∈ lasts, 0 ≤ z ∧ z < 256
  out : ∀ (i : Nat), i ∉ pend evs → lasts[i]? = (ap base evs)[i]?
  f1 : H0 N = none
  f2 : H0 L = none
  f3 : H0 Pn = none
  kp : Kp [] H0 H
/-- the last loop: some pending places have got other octets -/
structure LF (H : Hp) (base : List Int) (evs : List Ev) (N L Pn : Addr) (lasts : List Int) : Prop where
  hN : H N = some (.lst ((ap base evs).map V.int))
  hL : H L = some (.lst (lasts.map V.int))
  hP : H Pn = some (.lst (pI (pend evs)))
  nNL : N ≠ L
  nNP : N ≠ Pn
  nLP : L ≠ Pn
  len : lasts.length = base.length
  oct : ∀ z ∈ lasts, 0 ≤ z ∧ z < 256
  out : ∀ (i : Nat), i ∉ pend evs → lasts[i]? = (ap base evs)[i]?
theorem LF.kp {H H' : Hp} {M : List Addr} {base : List Int} {evs : List Ev} {N L Pn : Addr} {lasts : List Int} (h : LF H base evs N L Pn lasts) (k : Kp M H H') (n1 : N ∉ M) (n2 : L ∉ M) (n3 : Pn ∉ M) : LF H' base evs N L Pn lasts :=
  ⟨k.keep _ _ h.hN n1, k.keep _ _ h.hL n2, k.keep _ _ h.hP n3, h.nNL, h.nNP, h.nLP, h.len, h.oct, h.out⟩
theorem LF.put {H : Hp} {base : List Int} {evs : List Ev} {N L Pn : Addr} {lasts : List Int} {q : Nat} {z : Int} (h : LF H base evs N L Pn lasts) (hq : q ∈ pend evs) (hz : 0 ≤ z ∧ z < 256) : LF (upd H L (.lst ((lasts.set q z).map V.int))) base evs N L Pn (lasts.set q z) :=
  ⟨by rw [upd_ne h.nNL]; exact h.hN, upd_same, by rw [upd_ne h.nLP.symm]; exact h.hP, h.nNL, h.nNP, h.nLP, by rw [List.length_set]; exact h.len, oct_set h.oct hz, fun i hi => by
    have e : i ≠ q := fun e => hi (e ▸ hq)
    rw [List.getElem?_set_ne (fun x => e x.symm)]
    exact h.out i hi⟩
section
variable {P : Program} {w : World} {K : PySem.W.Frag} {mg : Str → Option Value} {base : Heap} {C_Disk C_Journal : Addr}
set_option maxHeartbeats 1000000 in
theorem cal__law_left (T : Txt K mg C_Disk C_Journal) : C8.Cal P w K mg base 3 "_law_left" (spLeft K) [] := by
  refine mkCal T.d__law_left sc__law_left (fun vs H Q E h => ?_) (fun f cdv A outer s H vs Q E hr h => ?_)
  · obtain ⟨a, b, v, u, cells, evs, rfl, _⟩ := h; rfl
  · obtain ⟨a, b, v, u, cells, evs, rfl, R, hv, hu, hc, hl, hco, hp, k⟩ := h
    refine ⟨_, (pss_cons (ps_par3 (i := 3) (j := 4) (l := 5) rfl sc__law_left.nd rfl rfl rfl (by decide) (by decide) (by decide) rfl rfl rfl (pa_cons (pe_callTy (KP.cq_listK K rfl) rfl T.m_list KP.bt_list (pa_cons (pv 1) pa_nil)) (pa_cons (pe_callTy (KP.cq_listK K rfl) rfl T.m_list KP.bt_list (pa_cons (pv 1) pa_nil)) (pa_cons (pe_lst pa_nil) pa_nil))) rfl)
 (C8.pss_cut (ps_for PassesOwn.never rfl (KP.pi_tupK K rfl (pv 2)) (pg_name (i := 6) sc__law_left.nd rfl (by first | exact Or.inl rfl | exact Or.inr rfl))
 (pss_one (ps_if (pt_cmp (pc_isN (pv 6)))
 (C8.pss_cut (ps_for PassesOwn.never rfl (KP.pi_listK K rfl (pv 5)) (pg_name (i := 7) sc__law_left.nd rfl (by first | exact Or.inl rfl | exact Or.inr rfl))
 (pss_one (ps_asg (pe_ix (KP.ix_listK K rfl) (pv 3) (pv 7) (fun _ _ => rfl)) (pg_sub (pv 4) (pv 7) set_list))))
 (pss_one (ps_set (i := 5) sc__law_left.nd rfl (by first | exact Or.inl rfl | exact Or.inr rfl) (pe_lst pa_nil))))
 (pss_cons (ps_asg (pe_ix (KP.ix_tupK K rfl) (pv 6) pe_int (fun _ _ => rfl)) (pg_sub (pv 3) (pe_ix (KP.ix_tupK K rfl) (pv 6) pe_int (fun _ _ => rfl)) set_list))
 (pss_one (ps_expr (KP.pe_bmK K rfl PySem.F.plainAttrs_list PySem.F.slot_list_append PySem.F.type_list_append mt_append (pv 5) (pa_cons (pe_ix (KP.ix_tupK K rfl) (pv 6) pe_int (fun _ _ => rfl)) pa_nil))))))))
 (pss_cons (ps_par (i := 8) (j := 9) rfl sc__law_left.nd rfl rfl (by decide) rfl rfl (pa_cons (C8.pe_c (cal__law_draw T) hr (by decide) rfl (pa_cons (pv 0) (pa_cons pe_int pa_nil))) (pa_cons (C8.pe_c (cal__law_pick T) hr (by decide) rfl (pa_cons (pv 0) (pa_cons (pe_lst (pa_cons pe_int (pa_cons pe_int (pa_cons pe_int (pa_cons pe_int (pa_cons (C8.pe_c (cal__law_draw T) hr (by decide) rfl (pa_cons (pv 0) (pa_cons pe_int pa_nil))) pa_nil)))))) pa_nil))) pa_nil)) rfl)
 (C8.pss_cut (ps_for PassesOwn.never rfl (KP.pi_listK K rfl (pv 5)) (pg_name (i := 7) sc__law_left.nd rfl (by first | exact Or.inl rfl | exact Or.inr rfl))
 (pss_one (ps_if (PW.pt (pw_or (pt_cmpR op_eq (pv 8) pe_int (nomark _)) (pw_or1 (PW.pt (pw_and (pt_cmpR op_gt (pv 8) pe_int (nomark _)) (pw_and1 (pt_cmpR op_eq (C8.pe_c (cal__law_draw T) hr (by decide) rfl (pa_cons (pv 0) (pa_cons pe_int pa_nil))) pe_int (nomark _))))))))
 (pss_one (ps_asg (pe_ix (KP.ix_listK K rfl) (pv 3) (pv 7) (fun _ _ => rfl)) (pg_sub (pv 4) (pv 7) set_list)))
 (pss_one (ps_if (PW.pt (pw_or (pt_cmpR op_eq (pv 8) pe_int (nomark _)) (pw_or1 (pt_cmpR op_eq (pv 8) pe_int (nomark _)))))
 (pss_one (ps_asg (pe_ifExp (pt_cmpR op_eq (pv 8) pe_int (nomark _)) (pe_op op_sub pe_int (pe_ix (KP.ix_listK K rfl) (pv 3) (pv 7) (fun _ _ => rfl))) (pv 9)) (pg_sub (pv 4) (pv 7) set_list)))
 (pss_one (ps_if (pt_cmpR op_eq (pv 8) pe_int (nomark _))
 (pss_one (ps_asg (C8.pe_c (cal__law_draw T) hr (by decide) rfl (pa_cons (pv 0) (pa_cons pe_int pa_nil))) (pg_sub (pv 4) (pv 7) set_list)))
 pss_nil)))))))
 (pss_one (ps_ret (pe_callTy (KP.cq_tupleK K rfl) rfl T.m_tuple KP.bt_tuple (pa_cons (pv 4) pa_nil)))))))), ?_⟩
    (simp only [n__law_left, KP.st_cons, KP.st_nilc, KP.st_nil]); (try dsimp only [L2.cxOf, L2.Cx.nox, L2.Cx.wish])
    obtain ⟨pc, pcs, rfl, hpc, hpca⟩ := hv.tupm
    obtain ⟨pe, pes, rfl, hpe, hpea⟩ := hu.tupm
    have e1 := hpca.ints
    subst e1
    have lpe : pes.length = evs.length := hpea.length
    walk_at "kp"
    refine w_listT hpc fun N hN => ?_
    have e1 : Kp [] H (upd H N (.lst (cells.map V.int))) := Kp.new hN
    walk_at "kp"
    refine w_listT (e1.sqT hpc) fun L hL => ?_
    have nNL : N ≠ L := ne_of_none upd_same hL
    walk_at "kp"
    intro Pn hPn
    have nLP : L ≠ Pn := ne_of_none upd_same hPn
    have nNP : N ≠ Pn := ne_of_none (by rw [upd_ne nNL, upd_same]) hPn
    have e2 := e1.trans (Kp.new (o := HO.lst (cells.map V.int)) hL)
    have e3 := e2.trans (Kp.new (o := HO.lst []) hPn)
    walk_at "kp"
    refine w_cut (fun σ' H' => ∃ (Pn : Addr) (y6 y7 : Option V) (lasts : List Int), σ' = [some (.ref a), some (.ref pc), some (.ref pe), some (.ref N), some (.ref L), some (.ref Pn), y6, y7, none, none] ∧ LS H H' cells evs N L Pn lasts) ?_ ?_
    · walk_at "kp"
      refine w_lpT (e3.sqT hpe) (fun i σ' H' => ∃ (Pn : Addr) (y6 y7 : Option V) (lasts : List Int), σ' = [some (.ref a), some (.ref pc), some (.ref pe), some (.ref N), some (.ref L), some (.ref Pn), y6, y7, none, none] ∧ LS H H' cells (evs.take i) N L Pn lasts)
        ⟨Pn, none, none, cells, rfl, ⟨by rw [upd_ne nNP, upd_ne nNL, upd_same]; rfl, by rw [upd_ne nLP, upd_same], upd_same, nNL, nNP, nLP, rfl, hco, fun _ _ => rfl, hN, e1.free hL, e2.free hPn, e3⟩⟩ (fun i σ' H' _ h => by obtain ⟨_, _, _, _, _, h⟩ := h; exact h.kp.sqT hpe) (fun i x σ' H' hx h => ?_) (fun σ' H' h => ?_)
      · obtain ⟨Pn, y6, y7, lasts, rfl, h⟩ := h
        obtain ⟨ev, hev, ix⟩ := hpea.get hx
        have et : evs.take (i + 1) = evs.take i ++ [ev] := by rw [List.take_add_one, hev]; rfl
        have hps : ∀ q ∈ pend (evs.take i), q < cells.length := fun q hq => by
          have : q ∈ puts evs := puts_take (pend_puts hq)
          have : ∀ (es : List Ev), q ∈ puts es → ∃ o, some (q, o) ∈ es := fun es => by
            induction es with
            | nil => intro h; cases h
            | cons e es ih =>
              intro h
              cases e with
              | none =>
                obtain ⟨o, ho⟩ := ih h
                exact ⟨o, List.mem_cons_of_mem _ ho⟩
              | some p =>
                rcases List.mem_cons.mp h with h | h
                · exact ⟨p.2, by rw [h]; exact List.mem_cons_self ..⟩
                · obtain ⟨o, ho⟩ := ih h
                  exact ⟨o, List.mem_cons_of_mem _ ho⟩
          obtain ⟨o, ho⟩ := this evs (puts_take (pend_puts hq))
          exact (hp q o ho).1
        walk_at "kp"
        rcases ev_of ix with ⟨rfl, rfl⟩ | ⟨q, kk, oo, rfl, rfl, hq⟩
        · walk_at "kp"
          refine w_cut (fun σ' H' => ∃ (y7 : Option V) (lasts' : List Int), σ' = [some (.ref a), some (.ref pc), some (.ref pe), some (.ref N), some (.ref L), some (.ref Pn), some .non, y7, none, none] ∧ H' L = some (.lst (lasts'.map V.int)) ∧ H' N = some (.lst ((ap cells (evs.take i)).map V.int)) ∧ Mix (ap cells (evs.take i)) lasts (pend (evs.take i)) lasts' ∧ (∀ z ∈ lasts', 0 ≤ z ∧ z < 256) ∧ Kp [] H H') ?_ ?_
          · walk_at "kp"
            have hlen : lasts.length = (ap cells (evs.take i)).length := by rw [ap_length]; exact h.len
            refine w_lpL (SqL.of h.hP) (fun j σ' H' => ∃ (y7 : Option V) (lasts' : List Int), σ' = [some (.ref a), some (.ref pc), some (.ref pe), some (.ref N), some (.ref L), some (.ref Pn), some .non, y7, none, none] ∧ H' L = some (.lst (lasts'.map V.int)) ∧ H' N = some (.lst ((ap cells (evs.take i)).map V.int)) ∧ H' Pn = some (.lst (pI (pend (evs.take i)))) ∧ Mix (ap cells (evs.take i)) lasts ((pend (evs.take i)).take j) lasts' ∧ (∀ z ∈ lasts', 0 ≤ z ∧ z < 256) ∧ Kp [] H H')
              ⟨_, lasts, rfl, h.hL, h.hN, h.hP, ⟨hlen, fun _ hm => by simp at hm, fun _ _ => rfl⟩, h.oct, h.kp⟩ (fun j σ' H' _ h' => by obtain ⟨_, _, _, _, _, h4, _⟩ := h'; exact SqL.of h4) (fun j x σ' H' hxj h' => ?_) (fun σ' H' h' => ?_)
            · obtain ⟨y7, lasts', rfl, h1, h2, h3, hm, ho, e5⟩ := h'
              obtain ⟨q, rfl, hq⟩ := pI_at hxj
              have hqc : q < cells.length := hps q (List.mem_of_getElem? hq)
              have hnow : (ap cells (evs.take i))[q]? = some ((ap cells (evs.take i))[q]'(by rw [ap_length]; exact hqc)) := by simp [ap_length, hqc]
              walk_at "kp"
              refine w_ixL (SqL.of h2) (v := .int ((ap cells (evs.take i))[q]'(by rw [ap_length]; exact hqc))) (atI_nat (by rw [List.getElem?_map, hnow]; rfl)) ?_
              walk_at "kp"
              refine w_setL (j := q) h1 (ixN_nat (by rw [List.length_map, hm.len, ap_length]; exact hqc)) ?_
              have ejt : (pend (evs.take i)).take (j + 1) = (pend (evs.take i)).take j ++ [q] := by rw [List.take_add_one, hq]; rfl
              refine ⟨_, lasts'.set q _, rfl, by rw [upd_same, ← List.map_set], by rw [upd_ne h.nNL]; exact h2, by rw [upd_ne h.nLP.symm]; exact h3, by rw [ejt]; exact hm.step hnow, oct_set ho ?_, e5.mut h.f2⟩
              exact oct_ap (evs.take i) cells hco (fun i' o' m' => (hp i' o' (List.mem_of_mem_take m')).2) _ (List.getElem_mem _)
            · obtain ⟨y7, lasts', rfl, h1, h2, h3, hm, ho, e5⟩ := h'
              have : (pI (pend (evs.take i))).length = (pend (evs.take i)).length := by simp [pI]
              rw [this, List.take_length] at hm
              exact ⟨y7, lasts', rfl, h1, h2, hm, ho, e5⟩
          · rintro σ' H1 ⟨y7, lasts', rfl, h1, h2, hm, ho, e5⟩
            walk_at "kp"
            intro P2 hP2
            have n1 : L ≠ P2 := ne_of_none h1 hP2
            have n2 : N ≠ P2 := ne_of_none h2 hP2
            walk_at "kp"
            refine ⟨P2, _, _, lasts', rfl, ?_⟩
            rw [et]
            refine ⟨?_, by rw [upd_ne n1]; exact h1, ?_, h.nNL, n2, n1, by rw [hm.len, ap_length], ho, fun j hj => ?_, h.f1, h.f2, e5.free hP2, e5.trans (Kp.new hP2)⟩
            · rw [upd_ne n2, ap_append]; exact h2
            · rw [pend_snoc]; exact upd_same
            · rw [ap_append]
              show lasts'[j]? = (ap cells (evs.take i))[j]?
              by_cases hjp : j ∈ pend (evs.take i)
              · exact hm.inn j hjp
              · rw [hm.out j hjp]; exact h.out j hjp
        · have hkk : kk < cells.length := (hp kk oo (List.mem_of_getElem? hev)).1
          walk_at "kp"
          refine w_ixT (h.kp.sqT hq) (v := .int oo) (by rfl) ?_
          walk_at "kp"
          refine w_ixT (h.kp.sqT hq) (v := .int (kk : Nat)) (by rfl) ?_
          refine w_setL (j := kk) h.hN (ixN_nat (by rw [List.length_map, ap_length]; exact hkk)) ?_
          walk_at "kp"
          have hP1 : (upd H' N (.lst (((ap cells (evs.take i)).map V.int).set kk (.int oo)))) Pn = some (.lst (pI (pend (evs.take i)))) := by rw [upd_ne h.nNP.symm]; exact h.hP
          refine w_bmL hP1 ?_
          walk_at "kp"
          have e5 : Kp [] H (upd H' N (.lst (((ap cells (evs.take i)).map V.int).set kk (.int oo)))) := h.kp.mut h.f1
          refine w_ixT (e5.sqT hq) (v := .int (kk : Nat)) (by rfl) ?_
          walk_at "kp"
          have hpl : (pend (evs.take i)).length ≤ evs.length := by
            have : ∀ es : List Ev, (pend es).length ≤ es.length := fun es => by
              have key : ∀ (es : List Ev) (p : List Nat), (es.foldl pend1 p).length ≤ p.length + es.length := fun es => by
                induction es with
                | nil => intro p; simp
                | cons e es ih =>
                  intro p
                  have := ih (pend1 p e)
                  rw [List.foldl_cons, List.length_cons]
                  have h2 : (pend1 p e).length ≤ p.length + 1 := by cases e <;> simp [pend1]
                  omega
              have := key es []
              simpa [pend] using this
            have h1 := this (evs.take i)
            rw [List.length_take] at h1
            omega
          refine w_append hP1 (by rw [sizeLine_eq]; simp [pI]; omega) ?_
          walk_at "kp"
          refine ⟨Pn, _, _, lasts, rfl, ?_⟩
          rw [et]
          refine ⟨?_, ?_, ?_, h.nNL, h.nNP, h.nLP, h.len, h.oct, fun j hj => ?_, h.f1, h.f2, h.f3, e5.mut h.f3⟩
          · rw [upd_ne h.nNP, upd_same, ap_append, ← List.map_set]; rfl
          · rw [upd_ne h.nLP, upd_ne h.nNL.symm]; exact h.hL
          · rw [upd_same, pend_snoc]
            simp [pI, pend1]
          · rw [pend_snoc] at hj
            have h1 : j ∉ pend (evs.take i) := fun m => hj (by simp [pend1, m])
            have h2 : j ≠ kk := fun m => hj (by simp [pend1, m])
            rw [ap_append]
            show lasts[j]? = ((ap cells (evs.take i)).set kk oo)[j]?
            rw [List.getElem?_set_ne (fun x => h2 x.symm)]
            exact h.out j h1
      · obtain ⟨Pn, y6, y7, lasts, rfl, h⟩ := h
        rw [lpe, List.take_length] at h
        exact ⟨Pn, y6, y7, lasts, rfl, h⟩
    · rintro σ' H1 ⟨Pn, y6, y7, lasts, rfl, h⟩
      have R1 : Rng H1 a b := R.kp h.kp (by simp) (by simp)
      have nNa : N ≠ a := ne_free R.da h.f1
      have nNb : N ≠ b := ne_free R.db h.f1
      have nLa : L ≠ a := ne_free R.da h.f2
      have nLb : L ≠ b := ne_free R.db h.f2
      have nPa : Pn ≠ a := ne_free R.da h.f3
      have nPb : Pn ≠ b := ne_free R.db h.f3
      have F1 : LF H1 cells evs N L Pn lasts := ⟨h.hN, h.hL, h.hP, h.nNL, h.nNP, h.nLP, h.len, h.oct, h.out⟩
      walk_at "kp"
      refine ⟨a, b, 6, rfl, R1, by decide, by decide, fun way H2 w0 w6 e2 R2 => ?_⟩
      have F2 := F1.kp e2 (by simp [nNa, nNb]) (by simp [nLa, nLb]) (by simp [nPa, nPb])
      walk_at "kp"
      refine ⟨a, b, 256, rfl, R2, by decide, by decide, fun z3 H3 z30 z31 e3 R3 => ?_⟩
      have F3 := F2.kp e3 (by simp [nNa, nNb]) (by simp [nLa, nLb]) (by simp [nPa, nPb])
      walk_at "kp"
      intro p hp4
      have R4 := R3.new (o := HO.lst [.int 0, .int 255, .int 1, .int 2, .int z3]) hp4
      have F4 := F3.kp (M := []) (Kp.new (o := HO.lst [.int 0, .int 255, .int 1, .int 2, .int z3]) hp4) (by simp) (by simp) (by simp)
      walk_at "kp"
      refine ⟨a, b, p, _, rfl, R4, SqL.of upd_same, ne_free R3.da hp4, ne_free R3.db hp4, by simp, by simp, fun i5 v5 H5 hv5 e5 R5 => ?_⟩
      have F5 := F4.kp e5 (by simp [nNa, nNb]) (by simp [nLa, nLb]) (by simp [nPa, nPb])
      obtain ⟨oc, rfl, hoc⟩ : ∃ oc : Int, v5 = .int oc ∧ 0 ≤ oc ∧ oc < 256 := by
        match i5, hv5 with
        | 0, h => exact ⟨0, (Option.some.inj h).symm, by decide, by decide⟩
        | 1, h => exact ⟨255, (Option.some.inj h).symm, by decide, by decide⟩
        | 2, h => exact ⟨1, (Option.some.inj h).symm, by decide, by decide⟩
        | 3, h => exact ⟨2, (Option.some.inj h).symm, by decide, by decide⟩
        | 4, h => exact ⟨z3, (Option.some.inj h).symm, z30, z31⟩
        | i + 5, h => simp at h
      have e05 : Kp [a, b] H H5 := (h.kp.wide.trans e2).trans ((e3.trans (Kp.new hp4)).trans e5)
      have hoc' : ∀ z ∈ ap cells evs, 0 ≤ z ∧ z < 256 := oct_ap evs cells hco fun i o m => (hp i o m).2
      walk_at "kp"
      refine w_cut (fun σ' H' => ∃ (y7 : Option V) (lasts : List Int), σ' = [some (.ref a), some (.ref pc), some (.ref pe), some (.ref N), some (.ref L), some (.ref Pn), y6, y7, some (.int way), some (.int oc)] ∧ LF H' cells evs N L Pn lasts ∧ Rng H' a b ∧ Kp [a, b] H H') ?_ ?_
      · walk_at "kp"
        refine w_lpL (SqL.of F5.hP) (fun j σ' H' => ∃ (y7 : Option V) (lasts : List Int), σ' = [some (.ref a), some (.ref pc), some (.ref pe), some (.ref N), some (.ref L), some (.ref Pn), y6, y7, some (.int way), some (.int oc)] ∧ LF H' cells evs N L Pn lasts ∧ Rng H' a b ∧ Kp [a, b] H H') ⟨_, lasts, rfl, F5, R5, e05⟩ (fun j σ' H' _ h' => by obtain ⟨_, _, _, h', _⟩ := h'; exact SqL.of h'.hP) (fun j x σ' H' hxj h' => ?_) (fun σ' H' h' => h')
        obtain ⟨y7, lasts, rfl, F, R, e⟩ := h'
        obtain ⟨q, rfl, hq⟩ := pI_at hxj
        have hqm : q ∈ pend evs := List.mem_of_getElem? hq
        have hqc : q < cells.length := by
          have : ∀ (es : List Ev), q ∈ puts es → ∃ o, some (q, o) ∈ es := fun es => by
            induction es with
            | nil => intro h; cases h
            | cons e es ih =>
              intro h
              cases e with
              | none =>
                obtain ⟨o, ho⟩ := ih h
                exact ⟨o, List.mem_cons_of_mem _ ho⟩
              | some p =>
                rcases List.mem_cons.mp h with h | h
                · exact ⟨p.2, by rw [h]; exact List.mem_cons_self ..⟩
                · obtain ⟨o, ho⟩ := ih h
                  exact ⟨o, List.mem_cons_of_mem _ ho⟩
          obtain ⟨o, ho⟩ := this evs (pend_puts hqm)
          exact (hp q o ho).1
        have hnow : (ap cells evs)[q]? = some ((ap cells evs)[q]'(by rw [ap_length]; exact hqc)) := by simp [ap_length, hqc]
        have hno := hoc' _ (List.getElem_mem (l := ap cells evs) (n := q) (by rw [ap_length]; exact hqc))
        -- what is stored
        have st : ∀ (H' : Hp) (lasts : List Int) (z : Int), LF H' cells evs N L Pn lasts → Rng H' a b → Kp [a, b] H H' → 0 ≤ z ∧ z < 256 → (∃ (y7 : Option V) (lasts' : List Int), [some (.ref a), some (.ref pc), some (.ref pe), some (.ref N), some (.ref L), some (.ref Pn), y6, some (.int (q : Nat)), some (.int way), some (.int oc)] = [some (.ref a), some (.ref pc), some (.ref pe), some (.ref N), some (.ref L), some (.ref Pn), y6, y7, some (.int way), some (.int oc)] ∧ LF (upd H' L (.lst ((lasts.map V.int).set q (.int z)))) cells evs N L Pn lasts' ∧ Rng (upd H' L (.lst ((lasts.map V.int).set q (.int z)))) a b ∧ Kp [a, b] H (upd H' L (.lst ((lasts.map V.int).set q (.int z))))) := fun H' lasts z F R e hz => by
          have es : ((lasts.map V.int).set q (.int z)) = (lasts.set q z).map V.int := by rw [List.map_set]
          rw [es]
          exact ⟨_, _, rfl, F.put hqm hz, R.kp (M := [L]) (Kp.set F.hL rfl (by simp)) (by simp [nLa.symm]) (by simp [nLb.symm]), e.mut h.f2⟩
        have hL' : ∀ (lasts : List Int), lasts.length = cells.length → ixN (lasts.map V.int).length (q : Int) = some q := fun lasts hl => ixN_nat (by rw [List.length_map, hl]; exact hqc)
        walk_at "kp"
        by_cases w0' : way = 0
        · rw [decide_eq_true w0']
          walk_at "kp"
          refine w_ixL (SqL.of F.hN) (v := .int ((ap cells evs)[q]'(by rw [ap_length]; exact hqc))) (atI_nat (by rw [List.getElem?_map, hnow]; rfl)) ?_
          walk_at "kp"
          refine w_setL (j := q) F.hL (hL' _ F.len) ?_
          exact st H' lasts _ F R e hno
        · rw [decide_eq_false w0']
          walk_at "kp"
          -- the other ways
          have rest : ∀ (H' : Hp) (lasts : List Int), LF H' cells evs N L Pn lasts → Rng H' a b → Kp [a, b] H H' → True := fun _ _ _ _ _ => trivial
          by_cases w2 : 2 < way
          · rw [decide_eq_true w2]
            walk_at "kp"
            refine ⟨a, b, 2, rfl, R, by decide, by decide, fun z6 H6 _ _ e6 R6 => ?_⟩
            have F6 := F.kp e6 (by simp [nNa, nNb]) (by simp [nLa, nLb]) (by simp [nPa, nPb])
            have e06 := e.trans e6
            walk_at "kp"
            refine w_itD (fun _ => ?_) (fun _ => ?_)
            · walk_at "kp"
              refine w_ixL (SqL.of F6.hN) (v := .int ((ap cells evs)[q]'(by rw [ap_length]; exact hqc))) (atI_nat (by rw [List.getElem?_map, hnow]; rfl)) ?_
              walk_at "kp"
              refine w_setL (j := q) F6.hL (hL' _ F6.len) ?_
              exact st H6 lasts _ F6 R6 e06 hno
            · walk_at "kp"
              rw [decide_eq_false (by omega)]
              walk_at "kp"
              rw [decide_eq_false (by omega)]
              walk_at "kp"
              refine w_itD (fun _ => ?_) (fun _ => ?_)
              · walk_at "kp"
                refine ⟨a, b, 256, rfl, R6, by decide, by decide, fun z7 H7 z70 z71 e7 R7 => ?_⟩
                have F7 := F6.kp e7 (by simp [nNa, nNb]) (by simp [nLa, nLb]) (by simp [nPa, nPb])
                walk_at "kp"
                refine w_setL (j := q) F7.hL (hL' _ F7.len) ?_
                exact st H7 lasts _ F7 R7 (e06.trans e7) ⟨z70, z71⟩
              · walk_at "kp"
                exact ⟨_, lasts, rfl, F6, R6, e06⟩
          · rw [decide_eq_false w2]
            walk_at "kp"
            by_cases w1 : way = 1
            · rw [decide_eq_true w1]
              walk_at "kp"
              rw [decide_eq_true w1]
              walk_at "kp"
              refine w_ixL (SqL.of F.hN) (v := .int ((ap cells evs)[q]'(by rw [ap_length]; exact hqc))) (atI_nat (by rw [List.getElem?_map, hnow]; rfl)) ?_
              walk_at "kp"
              refine w_setL (j := q) F.hL (hL' _ F.len) ?_
              exact st H' lasts _ F R e ⟨by omega, by omega⟩
            · rw [decide_eq_false w1]
              walk_at "kp"
              rw [decide_eq_true (by omega)]
              walk_at "kp"
              rw [decide_eq_false w1]
              walk_at "kp"
              refine w_setL (j := q) F.hL (hL' _ F.len) ?_
              exact st H' lasts _ F R e hoc
      · rintro σ' H6 ⟨y7, lasts, rfl, F, R6, e6⟩
        walk_at "kp"
        refine w_tupL (SqL.of F.hL) fun t ht => ?_
        refine k _ _ lasts (e6.trans (Kp.new ht)) (R6.new ht) (is_tup (SqT.of upd_same) (isAll_ints _)) ⟨F.len, fun i y hy => F.oct y (List.mem_of_getElem? hy), F.out⟩
end
end K92
namespace K92
open PySem PySem.Spec PyProof.Rows L2 KP JM
open PySem.W (Datum Tup)
open C8 (fnScope fnBody fnArgs fnScope_by)
def spOn (K : PySem.W.Frag) : Sp := fun vs H Q _ => ∃ (v u : V) (cells : List Int) (rs due : List (List Int)), vs = [v, u] ∧ Is K H v (Tup.mk cells) ∧ Is K H u (Tup.mk (tups due)) ∧ (∀ z ∈ cells, 0 ≤ z ∧ z < 256) ∧ 1 ≤ cells.length ∧ cells.length ≤ 20000 ∧ Has cells rs ∧ due.length ≤ 100000 ∧ (∀ r ∈ due, r.length ≤ 100000) ∧
  ∀ H' : Hp, Kp [] H H' → Q (.bl (decide (rs = due))) H'
def spDone (K : PySem.W.Frag) (CD CJ : Addr) : Sp := fun vs H Q E => ∃ (j v : V) (word : Str), vs = [j, .str word, v] ∧ ((word = "write" ∧ spWrite K CD CJ [j, v] H (fun x H' => x = .non → Q (.bl true) H') E) ∨ (word = "renew" ∧ spRenew K CD CJ [j, v] H (fun x H' => x = .non → Q (.bl true) H') E))
section
variable {P : Program} {w : World} {K : PySem.W.Frag} {mg : Str → Option Value} {base : Heap} {C_Disk C_Journal : Addr}
theorem cal__law_on (T : Txt K mg C_Disk C_Journal) : C8.Cal P w K mg base 6 "_law_on" (spOn K) [] := by
  refine mkCal T.d__law_on sc__law_on (fun vs H Q E h => ?_) (fun f cdv A outer s H vs Q E hr h => ?_)
  · obtain ⟨v, u, cells, rs, due, rfl, _⟩ := h; rfl
  · obtain ⟨v, u, cells, rs, due, rfl, hv, hu, ho, l1, l2, ⟨o, fin, h0, ho0, hE⟩, hd, hdr, k⟩ := h
    refine ⟨_, (pss_cons (ps_set (i := 2) sc__law_on.nd rfl (by first | exact Or.inl rfl | exact Or.inr rfl) (C8.pe_mk (mak_Disk T) hr (by decide) rfl (pa_cons (pv 0) pa_nil)))
 (pss_one (ps_ret (pe_and (C8.pe_c (cal__law_are_records T) hr (by decide) rfl (pa_cons (C8.pe_mt0 (met_Journal_records T) hr (by decide) (C8.pe_mk (mak_Journal T) hr (by decide) rfl (pa_cons (pv 2) pa_nil))) (pa_cons (pv 1) pa_nil))) (pe_one (pe_cmpR (KP.op_eqXK K rfl hr.units) (C8.pe_mt0 (met_Disk_events T) hr (by decide) (pv 2)) (pe_tup pa_nil) (nomark _))))))), ?_⟩
    (simp only [n__law_on, KP.st_cons, KP.st_nilc, KP.st_nil]); (try dsimp only [L2.cxOf, L2.Cx.nox, L2.Cx.wish])
    obtain ⟨c, cs, rfl, hc, hca⟩ := hv.tupm
    have e1 := hca.ints
    subst e1
    walk_at "kp"
    intro d dx nd ndx nex
    have k0 : Kp [] H (upd (upd H dx (.own d)) d (.ins C_Disk dx [])) := Kp.ins nd ndx nex
    refine ⟨d, dx, c, cells, rfl, upd_same, k0.sqT hc, ho, l1, l2, fun l e H1 D1 e1 hl he => ⟨rfl, ?_⟩⟩
    have k1 : Kp [] H H1 := Kp.hide1 k0 e1 nd
    walk_at "kp"
    intro j jx nj njx njex
    have k2 : Kp [] H1 (upd (upd H1 jx (.own j)) j (.ins C_Journal jx [])) := Kp.ins nj njx njex
    have D2 := D1.kp k2 (by simp) (by simp) (by simp)
    have hs : o % 2 = (((o % 2).toNat : Nat) : Int) := by omega
    refine ⟨j, jx, d, c, l, e, cells, [], o, (o % 2).toNat, rs, fin, rfl, upd_same, D2, l1, l2, h0, hs, hE, fun H3 r J3 e3 hr3 => ⟨rfl, ?_⟩⟩
    have k3 : Kp [] H1 H3 := Kp.hide1 k2 e3 nj
    obtain ⟨jx', hj⟩ := J3.ins
    refine w_methV hj (jf_records _ _ _ _) ?_
    walk_at "kp"
    refine ⟨j, d, c, l, e, r, cells, [], _, rs, fin, rfl, J3, fun H4 p e4 hp => ?_⟩
    have k4 : Kp [] H H4 := (k1.trans k3).trans e4
    walk_at "kp"
    refine ⟨_, u, rs, due, rfl, hp, hu.kp k4, hd, hdr, fun H5 e5 => ?_⟩
    walk_at "kp"
    refine w_itB (fun hb => ?_) (fun hb => ?_)
    · rw [hb] at k
      have D5 : DiskR K C_Disk H5 d c l e cells [] := (J3.disk.kp e4 (by simp) (by simp) (by simp)).kp e5 (by simp) (by simp) (by simp)
      walk_at "kp"
      obtain ⟨dxx, hd5⟩ := D5.ins
      refine w_methV hd5 (df_events _ _ _) ?_
      walk_at "kp"
      refine ⟨d, c, l, e, cells, [], rfl, D5, fun H6 q e6 hq => ?_⟩
      walk_at "kp"
      intro t ht
      have e7 : Kp [] H6 (upd H6 t (.tup [])) := Kp.new ht
      refine w_eqX (Tup.mk ([] : List Ev)) (Tup.mk []) (hq.kp e7) (is_newT ht .nil) (by decide) ?_
      exact k _ (((k4.trans e5).trans e6).trans e7)
    · rw [hb] at k
      exact k _ (k4.trans e5)
set_option maxHeartbeats 1000000 in
theorem cal__law_done (T : Txt K mg C_Disk C_Journal) : C8.Cal P w K mg base 4 "_law_done" (spDone K C_Disk C_Journal) [] := by
  refine mkCal T.d__law_done sc__law_done (fun vs H Q E h => ?_) (fun f cdv A outer s H vs Q E hr h => ?_)
  · obtain ⟨j, v, wd, rfl, _⟩ := h; rfl
  · obtain ⟨j, v, wd, rfl, h⟩ := h
    refine ⟨_, (pss_cons (ps_try_thru0 (pss_one (ps_set (i := 3) sc__law_done.nd rfl (by first | exact Or.inl rfl | exact Or.inr rfl) (pe_ifExp (pt_cmpR op_eq (pv 1) pe_str (nomark _)) (C8.pe_mt (met_Journal_write T) hr (by decide) (pv 0) (pa_cons (pv 2) pa_nil)) (C8.pe_mt (met_Journal_renew T) hr (by decide) (pv 0) (pa_cons (pv 2) pa_nil))))))
 (pss_one (ps_ret (pe_cmp (pc_isN (pv 3)))))), ?_⟩
    (simp only [n__law_done, KP.st_cons, KP.st_nilc, KP.st_nil]); (try dsimp only [L2.cxOf, L2.Cx.nox, L2.Cx.wish])
    walk_at "kp"
    refine w_eqS ?_
    walk_at "kp"
    rcases h with ⟨rfl, j, d, c, l, e, r, cells, evs, n, rs, fin, v, x, ev, J, hv, h1, h2, k⟩ | ⟨rfl, j, d, c, l, e, r, cells, evs, n, rs, fin, v, qs, ev, J, hv, h1, h2, h3, k⟩
    · cases ev
      rw [decide_eq_true rfl]
      walk_at "kp"
      obtain ⟨jx, hj⟩ := J.ins
      refine w_methV hj (jf_write _ _ _ _) ?_
      walk_at "kp"
      refine ⟨j, d, c, l, e, r, cells, evs, n, rs, fin, v, x, rfl, J, hv, h1, h2, fun H' J' e' => ?_⟩
      walk_at "kp"
      exact k H' J' e' rfl
    · cases ev
      rw [decide_eq_false (by decide)]
      walk_at "kp"
      obtain ⟨jx, hj⟩ := J.ins
      refine w_methV hj (jf_renew _ _ _ _) ?_
      walk_at "kp"
      refine ⟨j, d, c, l, e, r, cells, evs, n, rs, fin, v, qs, rfl, J, hv, h1, h2, h3, fun H' r' J' e' nr => ?_⟩
      walk_at "kp"
      exact k H' r' J' e' nr rfl
end
end K92
namespace K92
open PySem PySem.Spec PyProof.Rows L2 KP JM
open PySem.W (Datum Tup)
open C8 (fnScope fnBody fnArgs fnScope_by)
def roomN (rs : List (List Int)) : Nat := (rs.map fun r => r.length + 8).sum
theorem needs_room : ∀ rs : List (List Int), needs rs ≤ roomN rs
  | [] => Nat.le_refl _
  | r :: rs => by
    have := needs_room rs
    rw [needs_cons]
    show _ ≤ r.length + 8 + roomN rs
    omega
theorem needs_snoc (rs : List (List Int)) (r : List Int) : needs (rs ++ [r]) = needs rs + (3 + r.length) := by simp [needs, need]
theorem roomN_snoc (rs : List (List Int)) (r : List Int) : roomN (rs ++ [r]) = roomN rs + (r.length + 8) := by simp [roomN]
theorem tups_items : ∀ ys : List TT1, tups (ys.map Tup.items) = ys
  | [] => rfl
  | y :: ys => by
    show Tup.mk y.items :: tups (ys.map Tup.items) = y :: ys
    rw [tups_items ys]
def spLaw (K : PySem.W.Frag) : Sp := fun vs H Q _ => ∃ (a : Addr) (ns : List Int), vs = [.ref a] ∧ SqL K H a (ns.map V.int) ∧ ns.length ≤ 63 ∧ ∀ H', Q (.bl true) H'
/-- what the second doing leaves: cut anywhere, the old or the new is found; whole, the new -/
structure WP (n : Nat) (bs : List Int) (old new : List (List Int)) (evs : List Ev) : Prop where
  cut : ∀ (m : Nat) (out : List Int), Left bs (evs.take m) out → (Has out old ∨ Has out new) ∧ (evs.take m = evs → Has out new)
  oks : Oks 0 n evs
  len : evs.length ≤ 100000
/-- all are short and of octets -/
def Oct (r : List Int) : Prop := ∀ z ∈ r, 0 ≤ z ∧ z < 256
section
variable {P : Program} {w : World} {K : PySem.W.Frag} {mg : Str → Option Value} {base : Heap} {C_Disk C_Journal : Addr} {f : Addr} {fd : FuncData}
set_option maxHeartbeats 4000000 in
theorem ok_law (T : Txt K mg C_Disk C_Journal) (F : C8.Fun K "law" "law" s_law f fd) : FnOk P w K mg base C8.CX0 7 f fd ["script"] (spLaw K) := by
  refine C8.fn0 F sc_law (fun vs H Q E h => ?_) (fun cdv A outer s H vs Q E hr h => ?_)
  · obtain ⟨a, ns, rfl, _⟩ := h; rfl
  · obtain ⟨sa, ns, rfl, hS, hns, k⟩ := h
    refine ⟨_, (pss_cons (ps_set (i := 1) sc_law.nd rfl (by first | exact Or.inl rfl | exact Or.inr rfl) (C8.pe_c (cal__law_heap T) hr (by decide) rfl (pa_cons (pv 0) pa_nil)))
 (pss_cons (ps_set (i := 2) sc_law.nd rfl (by first | exact Or.inl rfl | exact Or.inr rfl) (C8.pe_c (cal__law_pick T) hr (by decide) rfl (pa_cons (pv 1) (pa_cons (pe_lst (pa_cons (pe_op op_add pe_int (C8.pe_c (cal__law_draw T) hr (by decide) rfl (pa_cons (pv 1) (pa_cons pe_int pa_nil)))) (pa_cons (pe_op op_add pe_int (C8.pe_c (cal__law_draw T) hr (by decide) rfl (pa_cons (pv 1) (pa_cons pe_int pa_nil)))) (pa_cons (pe_op op_add pe_int (C8.pe_c (cal__law_draw T) hr (by decide) rfl (pa_cons (pv 1) (pa_cons pe_int pa_nil)))) (pa_cons (pe_op op_add pe_int (C8.pe_c (cal__law_draw T) hr (by decide) rfl (pa_cons (pv 1) (pa_cons pe_int pa_nil)))) (pa_cons pe_int pa_nil)))))) pa_nil))))
 (C8.pss_cut (ps_if (pt_cmpR op_eq (C8.pe_c (cal__law_draw T) hr (by decide) rfl (pa_cons (pv 1) (pa_cons pe_int pa_nil))) pe_int (nomark _))
 (pss_one (ps_set (i := 2) sc_law.nd rfl (by first | exact Or.inl rfl | exact Or.inr rfl) (pe_op op_add pe_int (C8.pe_c (cal__law_draw T) hr (by decide) rfl (pa_cons (pv 1) (pa_cons pe_int pa_nil))))))
 pss_nil)
 (pss_cons (ps_set (i := 3) sc_law.nd rfl (by first | exact Or.inl rfl | exact Or.inr rfl) (pe_callTy (KP.cq_tupleK K rfl) rfl T.m_tuple KP.bt_tuple (pa_cons (pe_lc (own := [("at", 18)]) rfl sc_law.nd (pi_range1 rfl T.m_range (pa_cons (C8.pe_c (cal__law_draw T) hr (by decide) rfl (pa_cons (pv 1) (pa_cons pe_int pa_nil))) pa_nil))
 (blkOk_by (N := n_law) (sc := fnScope s_law) (by decide +kernel)) (fun _ _ _ _ _ => (pg_name (i := 18) sc_law.nd rfl (by first | exact Or.inl rfl | exact Or.inr rfl))) (fun _ _ _ _ _ => pts_nil) (fun _ _ _ _ _ => (C8.pe_c (cal__law_record T) hr (by decide) rfl (pa_cons (pv 1) (pa_cons (C8.pe_c (cal__law_pick T) hr (by decide) rfl (pa_cons (pv 1) (pa_cons (pe_lst (pa_cons pe_int (pa_cons pe_int (pa_cons pe_int (pa_cons pe_int pa_nil))))) pa_nil))) pa_nil))))) pa_nil)))
 (pss_cons (ps_set (i := 4) sc_law.nd rfl (by first | exact Or.inl rfl | exact Or.inr rfl) (C8.pe_c (cal__law_record T) hr (by decide) rfl (pa_cons (pv 1) (pa_cons (pv 2) pa_nil))))
 (pss_cons (ps_set (i := 5) sc_law.nd rfl (by first | exact Or.inl rfl | exact Or.inr rfl) (pe_op (KP.op_catAK K rfl) (pv 3) (pe_tup (pa_cons (pv 4) pa_nil))))
 (pss_cons (ps_set (i := 6) sc_law.nd rfl (by first | exact Or.inl rfl | exact Or.inr rfl) (pe_callB (KP.cr_sumK K rfl rfl) rfl T.m_sum KP.bt_sum (pa_cons (pe_lc (own := [("record", 19)]) rfl sc_law.nd (KP.pi_tupK K rfl (pv 5))
 (blkOk_by (N := n_law) (sc := fnScope s_law) (by decide +kernel)) (fun _ _ _ _ _ => (pg_name (i := 19) sc_law.nd rfl (by first | exact Or.inl rfl | exact Or.inr rfl))) (fun _ _ _ _ _ => pts_nil) (fun _ _ _ _ _ => (pe_op op_add (pe_callB (KP.cq_lenK K rfl) rfl T.m_len KP.bt_len (pa_cons (pv 19) pa_nil)) pe_int))) pa_nil)))
 (pss_cons (ps_set (i := 7) sc_law.nd rfl (by first | exact Or.inl rfl | exact Or.inr rfl) (pe_op (KP.op_repWK K rfl) (pe_tup (pa_cons pe_int pa_nil)) (pe_op op_add (pe_op op_mul pe_int (pe_op op_add (pv 6) pe_int)) (C8.pe_c (cal__law_draw T) hr (by decide) rfl (pa_cons (pv 1) (pa_cons pe_int pa_nil))))))
 (pss_cons (ps_set (i := 8) sc_law.nd rfl (by first | exact Or.inl rfl | exact Or.inr rfl) (C8.pe_mk (mak_Journal T) hr (by decide) rfl (pa_cons (C8.pe_mk (mak_Disk T) hr (by decide) rfl (pa_cons (pv 7) pa_nil)) pa_nil)))
 (pss_cons (ps_if (pt_not (pt_val (C8.pe_c (cal__law_done T) hr (by decide) rfl (pa_cons (pv 8) (pa_cons pe_str (pa_cons (pv 3) pa_nil))))))
 (pss_one (ps_ret pe_bl))
 pss_nil)
 (pss_cons (ps_par (i := 9) (j := 10) rfl sc_law.nd rfl rfl (by decide) rfl rfl (pa_cons (pe_callB (KP.cq_lenK K rfl) rfl T.m_len KP.bt_len (pa_cons (C8.pe_mt0 (met_Disk_events T) hr (by decide) (KP.pe_fldK K rfl (pv 8) rfl)) pa_nil)) (pa_cons (C8.pe_c (cal__law_draw T) hr (by decide) rfl (pa_cons (pv 1) (pa_cons pe_int pa_nil))) pa_nil)) rfl)
 (C8.pss_cut (ps_if (pt_not (pt_val (C8.pe_c (cal__law_done T) hr (by decide) rfl (pa_cons (pv 8) (pa_cons (pe_ifExp (pt_cmpR op_eq (pv 10) pe_int (nomark _)) pe_str pe_str) (pa_cons (pe_ifExp (pt_cmpR op_eq (pv 10) pe_int (nomark _)) (pv 5) (pv 4)) pa_nil))))))
 (pss_one (ps_ret pe_bl))
 pss_nil)
 (pss_cons (ps_if (pt_not (pt_val (C8.pe_c (cal__law_are_records T) hr (by decide) rfl (pa_cons (C8.pe_mt0 (met_Journal_records T) hr (by decide) (pv 8)) (pa_cons (pv 5) pa_nil)))))
 (pss_one (ps_ret pe_bl))
 pss_nil)
 (pss_cons (ps_set (i := 11) sc_law.nd rfl (by first | exact Or.inl rfl | exact Or.inr rfl) (C8.pe_mt0 (met_Disk_events T) hr (by decide) (KP.pe_fldK K rfl (pv 8) rfl)))
 (pss_cons (ps_asg (C8.pe_c (cal__law_base T) hr (by decide) rfl (pa_cons (KP.pe_fldK K rfl (KP.pe_fldK K rfl (pv 8) rfl) rfl) (pa_cons (pe_slice (KP.sl_tupAK K rfl) (pv 11) po_none (po_some (pv 9))) pa_nil))) (KP.pg_unlK K rfl rfl (pgs_cons (pg_name (i := 12) sc_law.nd rfl (by first | exact Or.inl rfl | exact Or.inr rfl)) (pgs_cons (pg_name (i := 13) sc_law.nd rfl (by first | exact Or.inl rfl | exact Or.inr rfl)) pgs_nil))))
 (pss_cons (ps_set (i := 14) sc_law.nd rfl (by first | exact Or.inl rfl | exact Or.inr rfl) (C8.pe_c (cal__law_left T) hr (by decide) rfl (pa_cons (pv 1) (pa_cons (pv 12) (pa_cons (pe_slice (KP.sl_tupAK K rfl) (pv 11) (po_some (pv 13)) po_none) pa_nil)))))
 (pss_cons (ps_if (pt_not (pt_val (C8.pe_c (cal__law_on T) hr (by decide) rfl (pa_cons (pv 14) (pa_cons (pv 5) pa_nil)))))
 (pss_one (ps_ret pe_bl))
 pss_nil)
 (C8.pss_cut (ps_if (pt_cmpR op_eq (C8.pe_c (cal__law_draw T) hr (by decide) rfl (pa_cons (pv 1) (pa_cons pe_int pa_nil))) pe_int (nomark _))
 (pss_cons (ps_set (i := 15) sc_law.nd rfl (by first | exact Or.inl rfl | exact Or.inr rfl) (C8.pe_c (cal__law_left T) hr (by decide) rfl (pa_cons (pv 1) (pa_cons (pv 12) (pa_cons (pe_slice (KP.sl_tupAK K rfl) (pv 11) (po_some (pv 13)) (po_some (pe_callB (KP.cq_max2 rfl) rfl T.m_max KP.bt_max (pa_cons (pv 9) (pa_cons (pe_op op_sub (pe_callB (KP.cq_lenK K rfl) rfl T.m_len KP.bt_len (pa_cons (pv 11) pa_nil)) (C8.pe_c (cal__law_pick T) hr (by decide) rfl (pa_cons (pv 1) (pa_cons (pe_lst (pa_cons pe_int (pa_cons pe_int (pa_cons (pe_op op_add pe_int (C8.pe_c (cal__law_draw T) hr (by decide) rfl (pa_cons (pv 1) (pa_cons (pe_callB (KP.cq_lenK K rfl) rfl T.m_len KP.bt_len (pa_cons (pv 11) pa_nil)) pa_nil)))) pa_nil)))) pa_nil)))) pa_nil))))) pa_nil)))))
 (pss_one (ps_if (PW.pt (pw_and (pt_not (pt_val (C8.pe_c (cal__law_on T) hr (by decide) rfl (pa_cons (pv 15) (pa_cons (pv 3) pa_nil))))) (pw_and1 (pt_not (pt_val (C8.pe_c (cal__law_on T) hr (by decide) rfl (pa_cons (pv 15) (pa_cons (pv 5) pa_nil))))))))
 (pss_one (ps_ret pe_bl))
 pss_nil)))
 pss_nil)
 (pss_cons (ps_asg (pe_tup (pa_cons (C8.pe_mk (mak_Journal T) hr (by decide) rfl (pa_cons (C8.pe_mk (mak_Disk T) hr (by decide) rfl (pa_cons (pv 14) pa_nil)) pa_nil)) (pa_cons (C8.pe_c (cal__law_pick T) hr (by decide) rfl (pa_cons (pv 1) (pa_cons (pe_lst (pa_cons (pe_tup (pa_cons (pv 4) pa_nil)) (pa_cons (pe_slice (KP.sl_tupAK K rfl) (pv 5) (po_some pe_int) po_none) (pa_cons (pe_tup (pa_cons (pe_slice (KP.sl_tupAK K rfl) (pv 4) po_none (po_some (pe_op op_sub (pv 2) pe_int))) pa_nil)) (pa_cons (pe_tup pa_nil) pa_nil))))) pa_nil))) pa_nil))) (KP.pg_tupK K rfl rfl (pgs_cons (pg_name (i := 16) sc_law.nd rfl (by first | exact Or.inl rfl | exact Or.inr rfl)) (pgs_cons (pg_name (i := 17) sc_law.nd rfl (by first | exact Or.inl rfl | exact Or.inr rfl)) pgs_nil))))
 (pss_cons (ps_if (PW.pt (pw_or (pt_not (pt_val (C8.pe_c (cal__law_done T) hr (by decide) rfl (pa_cons (pv 16) (pa_cons pe_str (pa_cons (pv 17) pa_nil)))))) (pw_or1 (pt_not (pt_val (C8.pe_c (cal__law_are_records T) hr (by decide) rfl (pa_cons (C8.pe_mt0 (met_Journal_records T) hr (by decide) (pv 16)) (pa_cons (pv 17) pa_nil))))))))
 (pss_one (ps_ret pe_bl))
 pss_nil)
 (pss_one (ps_ret (C8.pe_c (cal__law_on T) hr (by decide) rfl (pa_cons (pe_callTy (KP.cq_tupleK K rfl) rfl T.m_tuple KP.bt_tuple (pa_cons (pe_lc (own := [("at", 18)]) rfl sc_law.nd (pi_range1 rfl T.m_range (pa_cons (pe_callB (KP.cq_lenK K rfl) rfl T.m_len KP.bt_len (pa_cons (pv 7) pa_nil)) pa_nil))
 (blkOk_by (N := n_law) (sc := fnScope s_law) (by decide +kernel)) (fun _ _ _ _ _ => (pg_name (i := 18) sc_law.nd rfl (by first | exact Or.inl rfl | exact Or.inr rfl))) (fun _ _ _ _ _ => pts_nil) (fun _ _ _ _ _ => (C8.pe_mt (met_Disk_look T) hr (by decide) (KP.pe_fldK K rfl (pv 16) rfl) (pa_cons (pv 18) pa_nil)))) pa_nil)) (pa_cons (pv 17) pa_nil))))))))))))))))))))))))), ?_⟩
    (simp only [n_law, KP.st_cons, KP.st_nilc, KP.st_nil]); (try dsimp only [L2.cxOf, L2.Cx.nox, L2.Cx.wish])
    walk_at "kp"
    refine ⟨sa, ns, rfl, hS, hns, fun a b H1 e1 R1 ha0 hb0 => ?_⟩
    walk_at "kp"
    refine ⟨a, b, 40, rfl, R1, by decide, by decide, fun z2 H2 _ _ e2 R2 => ?_⟩
    walk_at "kp"
    refine ⟨a, b, 12, rfl, R2, by decide, by decide, fun z3 H3 _ _ e3 R3 => ?_⟩
    walk_at "kp"
    refine ⟨a, b, 14, rfl, R3, by decide, by decide, fun z4 H4 _ _ e4 R4 => ?_⟩
    walk_at "kp"
    refine ⟨a, b, 2600, rfl, R4, by decide, by decide, fun z5 H5 _ _ e5 R5 => ?_⟩
    walk_at "kp"
    intro p hp
    have R5' := R5.new (o := HO.lst [.int (4096 + z2), .int (4090 + z3), .int (250 + z4), .int (700 + z5), .int 500]) hp
    refine ⟨a, b, p, _, rfl, R5', SqL.of upd_same, ne_free R5.da hp, ne_free R5.db hp, by simp, by simp, fun i v H6 hv e6 R6 => ?_⟩
    obtain ⟨sz0, rfl, hsz⟩ : ∃ n : Nat, v = .int (n : Int) ∧ 250 ≤ n ∧ n ≤ 9899 := by
      match i, hv with
      | 0, h => exact ⟨(4096 + z2).toNat, by rw [Int.toNat_of_nonneg (by omega)]; exact (Option.some.inj h).symm, by omega, by omega⟩
      | 1, h => exact ⟨(4090 + z3).toNat, by rw [Int.toNat_of_nonneg (by omega)]; exact (Option.some.inj h).symm, by omega, by omega⟩
      | 2, h => exact ⟨(250 + z4).toNat, by rw [Int.toNat_of_nonneg (by omega)]; exact (Option.some.inj h).symm, by omega, by omega⟩
      | 3, h => exact ⟨(700 + z5).toNat, by rw [Int.toNat_of_nonneg (by omega)]; exact (Option.some.inj h).symm, by omega, by omega⟩
      | 4, h => exact ⟨500, (Option.some.inj h).symm, by decide, by decide⟩
      | i + 5, h => simp at h
    walk_at "kp"
    refine w_cut (fun σ' H' => ∃ n : Nat, σ' = [some (.ref sa), some (.ref a), some (.int (n : Int)), none, none, none, none, none, none, none, none, none, none, none, none, none, none, none, none, none] ∧ Rng H' a b ∧ 250 ≤ n ∧ n ≤ 9899) ?_ ?_
    · walk_at "kp"
      refine ⟨a, b, 12, rfl, R6, by decide, by decide, fun z7 H7 _ _ e7 R7 => ?_⟩
      walk_at "kp"
      refine w_itD (fun _ => ?_) (fun _ => ?_)
      · walk_at "kp"
        refine ⟨a, b, 4900, rfl, R7, by decide, by decide, fun z8 H8 _ _ e8 R8 => ?_⟩
        walk_at "kp"
        exact ⟨(5000 + z8).toNat, by rw [Int.toNat_of_nonneg (by omega)]; rfl, R8, by omega, by omega⟩
      · walk_at "kp"
        exact ⟨sz0, rfl, R7, hsz.1, hsz.2⟩
    clear hv hsz hp R5' e6 R6
    rintro σ' H1 ⟨sz, rfl, R1, hs1, hs2⟩
    walk_at "kp"
    refine ⟨a, b, 3, rfl, R1, by decide, by decide, fun z2 H2 _ _ e2 R2 => ?_⟩
    walk_at "kp"
    refine w_lcR1V K z2.toNat (by omega) TT1 [a, b] (fun H => Rng H a b) (fun i acc => acc.length = i ∧ ∀ t ∈ acc, t.items.length ≤ 20 ∧ Oct t.items) (by omega) (by simp [R2.da, R2.db]) R2 R2.grow (by simp) (fun i acc H3 QE QF hi e3 R3 hj hl1 kE kF => ?_) ?_
    · walk_at "kp"
      refine ⟨rfl, ?_⟩
      walk_at "kp"
      intro p hp
      have R4 := R3.new (o := HO.lst [.int 0, .int 1, .int 3, .int 20]) hp
      refine ⟨a, b, p, _, rfl, R4, SqL.of upd_same, ne_free R3.da hp, ne_free R3.db hp, by simp, by simp, fun i v H6 hv e6 R6 => ?_⟩
      obtain ⟨m, rfl, hm⟩ : ∃ n : Nat, v = .int (n : Int) ∧ n ≤ 20 := by
        match i, hv with
        | 0, h => exact ⟨0, (Option.some.inj h).symm, by decide⟩
        | 1, h => exact ⟨1, (Option.some.inj h).symm, by decide⟩
        | 2, h => exact ⟨3, (Option.some.inj h).symm, by decide⟩
        | 3, h => exact ⟨20, (Option.some.inj h).symm, by decide⟩
        | i + 4, h => simp at h
      refine ⟨a, b, m, rfl, R6, by omega, fun H7 v x e7 R7 hx lx ox => ?_⟩
      refine kE _ (Tup.mk x) _ (((Kp.new hp).trans e6).trans e7) R7 hx ⟨by simp [hj.1], fun t ht => ?_⟩
      rcases List.mem_append.mp ht with ht | ht
      · exact hj.2 t ht
      · rw [List.mem_singleton.mp ht]
        exact ⟨by show x.length ≤ 20; omega, ox⟩
    · intro D ws ys H3 hD e3 R3 hj hlen hall hH3
      obtain ⟨old, rfl⟩ : ∃ old, ys = tups old := ⟨ys.map Tup.items, (tups_items ys).symm⟩
      have ho : ∀ r ∈ old, r.length ≤ 20 ∧ Oct r := fun r hr => hj.2 (Tup.mk r) (List.mem_map_of_mem hr)
      have hol : old.length ≤ 2 := by have := hj.1; simp [tups] at this; omega
      walk_at "kp"
      refine w_tupD hH3 hall fun vo H4 e4 io => ?_
      have R4 : Rng H4 a b := R3.kp e4 (by simp) (by simp)
      walk_at "kp"
      refine ⟨a, b, sz, rfl, R4, by omega, fun H5 vl long e5 R5 il hll holl => ?_⟩
      have io := io.kp e5
      clear hj hlen hall hH3 e4 e5 R4
      walk_at "kp"
      intro t ht
      have R5 := R5.new (o := HO.tup [vl]) ht
      have e6 : Kp [] H5 (upd H5 t (.tup [vl])) := Kp.new ht
      refine w_catD (xs := tups old) (ys := tups [long]) (io.kp e6) (is_newT ht (.cons il .nil)) (by simp [tups]; omega) fun vn H6 e7 inw => ?_
      have io := (io.kp e6).kp e7
      have il := (il.kp e6).kp e7
      have R6 := R5.kp e7 (by simp) (by simp)
      rw [show tups old ++ tups [long] = tups (old ++ [long]) by simp [tups]] at inw
      obtain ⟨new, hnew⟩ : ∃ new, new = old ++ [long] := ⟨_, rfl⟩
      rw [← hnew] at inw
      have hnn : ∀ r ∈ new, r.length < 65536 ∧ Oct r := fun r hr => by
        rw [hnew] at hr
        rcases List.mem_append.mp hr with hr | hr
        · exact ⟨by have := (ho r hr).1; omega, (ho r hr).2⟩
        · rw [List.mem_singleton.mp hr]; exact ⟨by omega, holl⟩
      have hnl : new.length ≤ 3 := by rw [hnew]; simp; omega
      clear e6 e7 R5 ht
      walk_at "kp"
      obtain ⟨pn, pns, rfl, hpn, hpna⟩ := inw.tupm
      have lpn : pns.length = new.length := by rw [hpna.length]; simp [tups]
      refine w_lcTV hpn Int [] (fun _ => True) (fun i acc => acc = (new.take i).map fun r => ((r.length + 8 : Nat) : Int)) (by omega) (by simp) True.intro (fun _ _ _ _ _ => True.intro) (by simp) (fun i x acc H7 QE QF hx e7 _ hj hl1 kE kF => ?_) ?_
      · obtain ⟨y, hy, iy⟩ := hpna.get hx
        obtain ⟨r, hr, rfl⟩ : ∃ r, new[i]? = some r ∧ y = Tup.mk r := by
          unfold tups at hy
          rw [List.getElem?_map] at hy
          cases e : new[i]? with
          | none => rw [e] at hy; cases hy
          | some r => rw [e] at hy; exact ⟨r, rfl, (Option.some.inj hy).symm⟩
        walk_at "kp"
        refine ⟨rfl, ?_⟩
        walk_at "kp"
        refine w_lenD (iy.kp e7) ?_
        walk_at "kp"
        refine kE _ _ _ Kp.refl True.intro (is_int _) ?_
        rw [List.take_add_one, hr, hj, List.map_append]
        rfl
      · intro D ws ys H7 hD e7 _ hj hlen hall hH7
        have hw := hall.ints
        subst hw
        walk_at "kp"
        refine w_sum (SqL.of hH7) ?_
        have hroom : ys.sum = ((roomN new : Nat) : Int) := by
          rw [hj, lpn, List.take_length]
          unfold roomN
          generalize new = rs
          induction rs with
          | nil => rfl
          | cons r rs ih => rw [List.map_cons, List.sum_cons, ih, List.map_cons, List.sum_cons]; omega
        rw [hroom]
        have hrn : roomN new ≤ 9963 := by
          rw [hnew, roomN_snoc]
          have : roomN old ≤ 56 := by
            have key : ∀ rs : List (List Int), (∀ r ∈ rs, r.length ≤ 20) → roomN rs ≤ 28 * rs.length := fun rs => by
              induction rs with
              | nil => intro _; exact Nat.le_refl _
              | cons r rs ih =>
                intro h
                have h1 := ih fun q hq => h q (List.mem_cons_of_mem _ hq)
                have h2 := h r (List.mem_cons_self ..)
                show r.length + 8 + roomN rs ≤ _
                rw [List.length_cons]; omega
            have := key old fun r hr => (ho r hr).1
            omega
          omega
        clear hj hlen hall hH7 hD
        have R7 : Rng H7 a b := R6.kp e7 (by simp) (by simp)
        have io := io.kp e7
        have il := il.kp e7
        have inw := (is_tup hpn hpna).kp e7
        generalize V.ref pn = vn at inw ⊢
        clear hpn hpna e7 R6
        walk_at "kp"
        intro t ht
        have R8 := R7.new (o := HO.tup [.int 0]) ht
        have e8 : Kp [] H7 (upd H7 t (.tup [.int 0])) := Kp.new ht
        walk_at "kp"
        refine ⟨a, b, 2, rfl, R8, by decide, by decide, fun z9 H9 _ _ e9 R9 => ?_⟩
        walk_at "kp"
        obtain ⟨n, hn, hn1, hn2⟩ : ∃ n : Nat, (2 * (((roomN new : Nat) : Int) + 8) + z9) = (n : Int) ∧ 2 * roomN new + 16 ≤ n ∧ n ≤ 2 * roomN new + 17 := ⟨(2 * (((roomN new : Nat) : Int) + 8) + z9).toNat, by omega, by omega, by omega⟩
        rw [hn]
        refine w_repD (z := 0) ((is_newT ht (isAll_ints [0])).kp e9) (by omega) (by omega) fun vc H10 e10 ic => ?_
        have k10 := (e8.wide.trans e9).trans e10.wide
        have io := io.kp k10
        have il := il.kp k10
        have inw := inw.kp k10
        have R10 := R9.kp e10 (by simp) (by simp)
        have hh : roomN new + 7 ≤ (n - 1) / 2 := by omega
        clear k10 e10 e9 e8 R9 R8 R7 hn
        obtain ⟨cs, hcs⟩ : ∃ cs, cs = List.replicate n (0 : Int) := ⟨_, rfl⟩
        have csl : cs.length = n := by rw [hcs, List.length_replicate]
        have cso : Oct cs := fun z hz => by rw [hcs] at hz; rw [List.eq_of_mem_replicate hz]; decide
        obtain ⟨c0, cE⟩ := has_zero n (by omega)
        rw [← hcs] at ic c0 cE
        walk_at "kp"
        obtain ⟨c, cvs, rfl, hc, hca⟩ := ic.tupm
        have e1 := hca.ints
        subst e1
        intro d dx nd ndx nex
        have k0 : Kp [] H10 (upd (upd H10 dx (.own d)) d (.ins C_Disk dx [])) := Kp.ins nd ndx nex
        refine ⟨d, dx, c, cs, rfl, upd_same, k0.sqT hc, cso, by omega, by omega, fun l e H11 D1 e1 hl he => ⟨rfl, ?_⟩⟩
        have k11 : Kp [] H10 H11 := Kp.hide1 k0 e1 nd
        have nda : d ≠ a := ne_free R10.da nd
        have ndb : d ≠ b := ne_free R10.db nd
        have nla : l ≠ a := ne_free (R10.kp k0 (by simp) (by simp)).da hl
        have nlb : l ≠ b := ne_free (R10.kp k0 (by simp) (by simp)).db hl
        have nea : e ≠ a := ne_free (R10.kp k0 (by simp) (by simp)).da he
        have neb : e ≠ b := ne_free (R10.kp k0 (by simp) (by simp)).db he
        have R11 := R10.kp k11 (by simp) (by simp)
        walk_at "kp"
        intro j jx nj njx njex
        have k2 : Kp [] H11 (upd (upd H11 jx (.own j)) j (.ins C_Journal jx [])) := Kp.ins nj njx njex
        have D2 := D1.kp k2 (by simp) (by simp) (by simp)
        refine ⟨j, jx, d, c, l, e, cs, [], 0, 0, [], half n 0, rfl, upd_same, D2, by omega, by omega, c0, by decide, by rw [csl]; exact cE, fun H12 r J2 e3 hr3 => ⟨rfl, ?_⟩⟩
        have k12 : Kp [] H11 H12 := Kp.hide1 k2 e3 nj
        have nja : j ≠ a := ne_free R11.da nj
        have njb : j ≠ b := ne_free R11.db nj
        have R12 := R11.kp k12 (by simp) (by simp)
        have io := (io.kp k11).kp k12
        have il := (il.kp k11).kp k12
        have inw := (inw.kp k11).kp k12
        have icc := ((is_tup hc hca).kp k11).kp k12
        clear k2 k12 k0 k11 e1 e3 D1 D2 R10 R11 hl he nd ndx nex nj njx njex
        walk_at "kp"
        have hno := needs_room new
        have hns : needs new = needs old + (3 + long.length) := by rw [hnew]; exact needs_snoc _ _
        have hb1 : half n 1 + needs old ≤ half n 2 := by unfold half; omega
        refine ⟨.ref j, vo, "renew", rfl, .inr ⟨rfl, j, d, c, l, e, r, cs, [], 0, [], half n 0, vo, old, rfl, J2, io, ?_, by omega, ?_, fun H13 r1 J3 e13 hr1 _ => ?_⟩⟩
        · rw [csl]; exact hb1
        · simp; omega
        rw [csl] at J3
        replace J3 : JR K C_Disk C_Journal H13 j d c l e r1 cs (rE (half n 1) (half n 2) 1 old) 1 old (half n 1 + needs old) := by
          rw [List.nil_append] at J3; exact J3
        have io := io.kp e13
        have il := il.kp e13
        have inw := inw.kp e13
        have icc := icc.kp e13
        have R13 := R12.kp e13 (by simp [nla.symm, nea.symm, nja.symm]) (by simp [nlb.symm, neb.symm, njb.symm])
        have nr1a : r1 ≠ a := ne_free R12.da hr1
        have nr1b : r1 ≠ b := ne_free R12.db hr1
        clear J2 R12 hr1 e13
        obtain ⟨evs1, hev1⟩ : ∃ es, es = rE (half n 1) (half n 2) 1 old := ⟨_, rfl⟩
        rw [← hev1] at J3
        walk_at "kp"
        obtain ⟨jx', hj⟩ := J3.ins
        refine w_fldV hj T.cl_Journal T.na_Journal_disk (jf_d _ _ _ _) ?_
        walk_at "kp"
        obtain ⟨dx', hd⟩ := J3.disk.ins
        refine w_methV hd (df_events _ _ _) ?_
        walk_at "kp"
        refine ⟨d, c, l, e, cs, evs1, rfl, J3.disk, fun H14 pe e14 ie => ?_⟩
        walk_at "kp"
        refine w_lenD ie ?_
        walk_at "kp"
        have R14 := R13.kp e14 (by simp) (by simp)
        have J14 := J3.kp e14 (by simp) (by simp) (by simp) (by simp) (by simp)
        refine ⟨a, b, 3, rfl, R14, by decide, by decide, fun way H15 _ _ e15 R15 => ?_⟩
        have J15 := J14.kp e15 (by simp [nja, njb]) (by simp [nda, ndb]) (by simp [nla, nlb]) (by simp [nea, neb]) (by simp [nr1a, nr1b])
        have io := (io.kp e14).kp e15
        have il := (il.kp e14).kp e15
        have inw := (inw.kp e14).kp e15
        have icc := (icc.kp e14).kp e15
        clear e14 e15 R14 J14 J3 R13 ie hj hd
        have hb2 := has_renew (now := cs) (rs := old) (s := 1) csl (by omega) (by omega) hb1
        rw [show (1 + 1 : Nat) = 2 from rfl, ← hev1] at hb2
        have lev1 : evs1.length ≤ 1000 := by
          have := rE_len (half n 1) (half n 2) 1 old
          rw [← hev1] at this
          have h1 := needs_room old
          have : roomN old + (long.length + 8) = roomN new := by rw [hnew, roomN_snoc]
          have key : ∀ rs : List (List Int), (∀ r ∈ rs, r.length ≤ 20) → needs rs ≤ 23 * rs.length := fun rs => by
            induction rs with
            | nil => intro _; exact Nat.le_refl _
            | cons r rs ih =>
              intro h
              have h1 := ih fun q hq => h q (List.mem_cons_of_mem _ hq)
              have h2 := h r (List.mem_cons_self ..)
              rw [needs_cons, List.length_cons]; omega
          have := key old fun r hr => (ho r hr).1
          omega
        have bln : (ap cs evs1).length = n := by rw [ap_length]; exact csl
        walk_at "kp"
        refine w_cut (fun σ' H' => ∃ (evs2 : List Ev) (s2 fin2 : Nat) (r2 : Addr), σ' = [some (.ref sa), some (.ref a), some (.int (sz : Nat)), some vo, some vl, some vn, some (.int (roomN new : Nat)), some (.ref c), some (.ref j), some (.int evs1.length), some (.int way), none, none, none, none, none, none, none, none, none]
          ∧ JR K C_Disk C_Journal H' j d c l e r2 cs (evs1 ++ evs2) s2 new fin2 ∧ Kp [l, e, j, r1] H15 H' ∧ r2 ≠ a ∧ r2 ≠ b ∧ WP n (ap cs evs1) old new evs2) ?_ ?_
        · walk_at "kp"
          by_cases hw : way = 0
          · rw [decide_eq_true hw]
            walk_at "kp"
            rw [decide_eq_true hw]
            walk_at "kp"
            refine ⟨.ref j, vn, "renew", rfl, .inr ⟨rfl, j, d, c, l, e, r1, cs, evs1, 1, old, _, vn, new, rfl, J15, inw, ?_, by omega, ?_, fun H16 r2 J16 e16 hr2 _ => ?_⟩⟩
            · rw [csl]; show half n 0 + needs new ≤ half n 1; unfold half; omega
            · omega
            rw [csl] at J16
            walk_at "kp"
            refine ⟨rE (half n 0) (half n 1) 0 new, _, _, r2, rfl, J16, e16.mono (by simp), ne_free R15.da hr2, ne_free R15.db hr2, ⟨fun m out hL => ?_, ?_, ?_⟩⟩
            · exact cut_renew bln (by omega) hb2.2.2 hb2.2.1 (by unfold half; omega) hL
            · exact oks_rE (by unfold half; omega) (by unfold half; omega) (by omega) (by omega) hnn
            · have := rE_len (half n 0) (half n 1) 0 new; omega
          · rw [decide_eq_false hw]
            walk_at "kp"
            rw [decide_eq_false hw]
            walk_at "kp"
            refine ⟨.ref j, vl, "write", rfl, .inl ⟨rfl, j, d, c, l, e, r1, cs, evs1, 1, old, _, vl, long, rfl, J15, il, ?_, by omega, fun H16 J16 e16 _ => ?_⟩⟩
            · rw [csl]; show half n 1 + needs old + 3 + long.length ≤ half n 2; unfold half; omega
            rw [csl, ← hnew] at J16
            walk_at "kp"
            refine ⟨wE (half n 1 + needs old) (half n 2) long, _, _, r1, rfl, J16, e16, nr1a, nr1b, ⟨fun m out hL => ?_, ?_, ?_⟩⟩
            · rw [hnew]; exact cut_write bln (by omega) hb2.2.2 hb2.2.1 (by unfold half; omega) hL
            · exact oks_wE (by unfold half; omega) (by unfold half; omega) (by omega) holl
            · have := wE_len (half n 1 + needs old) (half n 2) long; omega
        rintro σ' H16 ⟨evs2, s2, fin2, r2, rfl, J16, e16, nr2a, nr2b, hW⟩
        have R16 : Rng H16 a b := R15.kp e16 (by simp [nla.symm, nea.symm, nja.symm, nr1a.symm]) (by simp [nlb.symm, neb.symm, njb.symm, nr1b.symm])
        have io := io.kp e16
        have il := il.kp e16
        have inw := inw.kp e16
        have icc := icc.kp e16
        clear e16 J15 R15
        have hnn' : ∀ r ∈ new, r.length ≤ 100000 := fun r hr => by have := (hnn r hr).1; omega
        walk_at "kp"
        obtain ⟨jx16, hj⟩ := J16.ins
        refine w_methV hj (jf_records _ _ _ _) ?_
        walk_at "kp"
        refine ⟨j, d, c, l, e, r2, cs, _, s2, new, fin2, rfl, J16, fun H17 pr e17 ir => ?_⟩
        have R17 := R16.kp e17 (by simp) (by simp)
        have J17 := J16.kp e17 (by simp) (by simp) (by simp) (by simp) (by simp)
        walk_at "kp"
        refine ⟨_, vn, new, new, rfl, ir, inw.kp e17, by omega, hnn', fun H18 e18 => ?_⟩
        rw [decide_eq_true rfl]
        have R18 := R17.kp e18 (by simp) (by simp)
        have J18 := J17.kp e18 (by simp) (by simp) (by simp) (by simp) (by simp)
        walk_at "kp"
        obtain ⟨jx18, hj⟩ := J18.ins
        refine w_fldV hj T.cl_Journal T.na_Journal_disk (jf_d _ _ _ _) ?_
        walk_at "kp"
        obtain ⟨dx18, hd⟩ := J18.disk.ins
        refine w_methV hd (df_events _ _ _) ?_
        walk_at "kp"
        refine ⟨d, c, l, e, cs, _, rfl, J18.disk, fun H19 pe e19 ie => ?_⟩
        have R19 := R18.kp e19 (by simp) (by simp)
        have J19 := J18.kp e19 (by simp) (by simp) (by simp) (by simp) (by simp)
        have io := ((io.kp e17).kp e18).kp e19
        have il := ((il.kp e17).kp e18).kp e19
        have inw := ((inw.kp e17).kp e18).kp e19
        have icc := ((icc.kp e17).kp e18).kp e19
        clear e17 e18 e19 J16 J17 J18 R16 R17 R18 ir hj hd
        generalize V.ref pe = ve at ie ⊢
        obtain ⟨es, hes⟩ : ∃ es, evs1 = es ++ [none] := by rw [hev1]; exact rE_none _ _ _ _
        have lev : evs1.length = es.length + 1 := by rw [hes]; simp
        have hok1 : Oks 0 n evs1 := by
          rw [hev1]
          exact oks_rE hb1 (by unfold half; omega) (by omega) (by omega) fun r hr => ⟨by have := (ho r hr).1; omega, (ho r hr).2⟩
        walk_at "kp"
        obtain ⟨jx19, hj⟩ := J19.ins
        refine w_fldV hj T.cl_Journal T.na_Journal_disk (jf_d _ _ _ _) ?_
        walk_at "kp"
        obtain ⟨dx19, hd⟩ := J19.disk.ins
        refine w_fldV hd T.cl_Disk T.na_Disk_cells (df_c _ _ _) ?_
        walk_at "kp"
        refine w_slD ie fun vb H20 e20 ib => ?_
        rw [cutD_hi, List.take_left, hes] at ib
        walk_at "kp"
        refine ⟨.ref c, vb, cs, es, rfl, icc.kp e20, ib, by omega, by omega, fun i hi => by rw [csl]; exact hok1.puts i (by rw [hes, puts_append]; exact List.mem_append_left _ hi), fun H21 pb qb e21 hpb ibase _ => ?_⟩
        rw [← hes] at ibase
        rw [← lev] at hpb
        walk_at "kp"
        refine w_gUnl (SqL.of hpb) rfl ?_
        have R21 := (R19.kp e20 (by simp) (by simp)).kp e21 (by simp) (by simp)
        have io := (io.kp e20).kp e21
        have il := (il.kp e20).kp e21
        have inw := (inw.kp e20).kp e21
        have ie := (ie.kp e20).kp e21
        have icc := (icc.kp e20).kp e21
        clear e20 e21 ib R19 J19 hj hd hpb
        generalize V.ref qb = vbase at ibase ⊢
        have bso : Oct (ap cs evs1) := oct_ap evs1 cs cso fun i o m => ⟨(hok1 i o m).2.2.1, (hok1 i o m).2.2.2⟩
        have hp2 : ∀ (m : Nat) (i : Nat) (o : Int), some (i, o) ∈ evs2.take m → i < (ap cs evs1).length ∧ 0 ≤ o ∧ o < 256 := fun m i o h => by
          have := hW.oks i o (List.mem_of_mem_take h)
          rw [bln]; omega
        walk_at "kp"
        refine w_slD ie fun vb H20 e20 ib => ?_
        rw [cutD_lo, List.drop_left] at ib
        have R20 := R21.kp e20 (by simp) (by simp)
        refine ⟨a, b, vbase, vb, ap cs evs1, evs2, rfl, R20, ibase.kp e20, ib, by omega, hW.len, bso, fun i o m => hp2 evs2.length i o (by rw [List.take_length]; exact m), fun H22 vbh out e22 R22 ibh hLo => ?_⟩
        have hfull := (hW.cut evs2.length out (by rw [List.take_length]; exact hLo)).2 (List.take_length ..)
        have oo : Oct out := fun z hz => by
          obtain ⟨i, hi⟩ := List.mem_iff_getElem?.mp hz
          exact hLo.oct i z hi
        have lo : out.length = n := hLo.len.trans bln
        have io := (io.kp e20).kp e22
        have il := (il.kp e20).kp e22
        have inw := (inw.kp e20).kp e22
        have ie := (ie.kp e20).kp e22
        have icc := (icc.kp e20).kp e22
        have ibase := (ibase.kp e20).kp e22
        clear e20 e22 R20 R21 ib
        walk_at "kp"
        refine ⟨vbh, vn, out, new, new, rfl, ibh, inw, oo, by omega, by omega, hfull, by omega, hnn', fun H23 e23 => ?_⟩
        rw [decide_eq_true rfl]
        have io := io.kp e23
        have il := il.kp e23
        have inw := inw.kp e23
        have ie := ie.kp e23
        have icc := icc.kp e23
        have ibase := ibase.kp e23
        have ibh := ibh.kp e23
        have R23 := R22.kp e23 (by simp) (by simp)
        clear e23 R22
        walk_at "kp"
        refine w_cut (fun σ' H' => ∃ (y : Option V), σ' = [some (.ref sa), some (.ref a), some (.int (sz : Nat)), some vo, some vl, some vn, some (.int (roomN new : Nat)), some (.ref c), some (.ref j), some (.int evs1.length), some (.int way), some ve, some vbase, some (.int evs1.length), some vbh, y, none, none, none, none] ∧ Kp [a, b] H23 H' ∧ Rng H' a b) ?_ ?_
        · walk_at "kp"
          refine ⟨a, b, 2, rfl, R23, by decide, by decide, fun z1 H24 _ _ e24 R24 => ?_⟩
          walk_at "kp"
          refine w_itD (fun _ => ?_) (fun _ => ?_)
          · walk_at "kp"
            refine w_lenD (ie.kp e24) ?_
            walk_at "kp"
            refine w_lenD (ie.kp e24) ?_
            walk_at "kp"
            have lee : (evs1 ++ evs2).length = evs1.length + evs2.length := List.length_append
            have le2 := hW.len
            refine ⟨a, b, _, rfl, R24, by omega, by omega, fun z2 H25 z20 z21 e25 R25 => ?_⟩
            walk_at "kp"
            intro p hp
            have R26 := R25.new (o := HO.lst [.int 1, .int 2, .int (1 + z2)]) hp
            refine ⟨a, b, p, _, rfl, R26, SqL.of upd_same, ne_free R25.da hp, ne_free R25.db hp, by simp, by simp, fun i v H6 hv e6 R6 => ?_⟩
            obtain ⟨y, rfl⟩ : ∃ y : Int, v = .int y := by
              match i, hv with
              | 0, h => exact ⟨_, (Option.some.inj h).symm⟩
              | 1, h => exact ⟨_, (Option.some.inj h).symm⟩
              | 2, h => exact ⟨_, (Option.some.inj h).symm⟩
              | i + 3, h => simp at h
            have k6 := ((e24.trans e25).trans (Kp.new hp)).trans e6
            walk_at "kp"
            obtain ⟨m, hm, hmn⟩ : ∃ m : Nat, (if ((evs1 ++ evs2).length : Int) - y > ((evs1.length : Nat) : Int) then ((evs1 ++ evs2).length : Int) - y else ((evs1.length : Nat) : Int)) = (m : Int) ∧ evs1.length ≤ m := by
              by_cases hc : ((evs1 ++ evs2).length : Int) - y > ((evs1.length : Nat) : Int)
              · rw [if_pos hc]
                exact ⟨(((evs1 ++ evs2).length : Int) - y).toNat, by omega, by omega⟩
              · rw [if_neg hc]
                exact ⟨_, rfl, Nat.le_refl _⟩
            rw [hm]
            refine w_slD (ie.kp k6) fun vb H7 e7 ib => ?_
            rw [cutD_both, List.drop_left] at ib
            have R7 := R6.kp e7 (by simp) (by simp)
            have k7 := k6.trans e7.wide
            refine ⟨a, b, vbase, vb, ap cs evs1, evs2.take (m - evs1.length), rfl, R7, ibase.kp k7, ib, by omega, by rw [List.length_take]; omega, bso, hp2 _, fun H8 vlf out2 e8 R8 ilf hL2 => ?_⟩
            have k8 := k7.trans e8
            have hcut := (hW.cut _ out2 hL2).1
            have oo2 : Oct out2 := fun z hz => by
              obtain ⟨i, hi⟩ := List.mem_iff_getElem?.mp hz
              exact hL2.oct i z hi
            have lo2 : out2.length = n := hL2.len.trans bln
            walk_at "kp"
            rcases hcut with hcut | hcut
            · refine ⟨vlf, vo, out2, old, old, rfl, ilf, io.kp k8, oo2, by omega, by omega, hcut, by omega, fun r hr => by have := (ho r hr).1; omega, fun H9 e9 => ?_⟩
              rw [decide_eq_true rfl]
              walk_at "kp"
              exact ⟨_, rfl, k8.trans e9.wide, R8.kp e9 (by simp) (by simp)⟩
            · refine ⟨vlf, vo, out2, new, old, rfl, ilf, io.kp k8, oo2, by omega, by omega, hcut, by omega, fun r hr => by have := (ho r hr).1; omega, fun H9 e9 => ?_⟩
              walk_at "kp"
              cases hdd : decide (new = old) with
              | true =>
                walk_at "kp"
                exact ⟨_, rfl, k8.trans e9.wide, R8.kp e9 (by simp) (by simp)⟩
              | false =>
                walk_at "kp"
                refine ⟨vlf, vn, out2, new, new, rfl, ilf.kp e9, (inw.kp k8).kp e9, oo2, by omega, by omega, hcut, by omega, hnn', fun H10 e10 => ?_⟩
                rw [decide_eq_true rfl]
                walk_at "kp"
                exact ⟨_, rfl, (k8.trans e9.wide).trans e10.wide, (R8.kp e9 (by simp) (by simp)).kp e10 (by simp) (by simp)⟩
          · walk_at "kp"
            exact ⟨_, rfl, e24, R24⟩
        · rintro σ' H24 ⟨y, rfl, e24, R24⟩
          have io := io.kp e24
          have il := il.kp e24
          have inw := inw.kp e24
          have icc := icc.kp e24
          have ibh := ibh.kp e24
          clear e24 R23
          walk_at "kp"
          intro d2 dx2 nd2 ndx2 nex2
          have k0 : Kp [] H24 (upd (upd H24 dx2 (.own d2)) d2 (.ins C_Disk dx2 [])) := Kp.ins nd2 ndx2 nex2
          obtain ⟨cb, cbs, rfl, hcb, hcba⟩ := ibh.tupm
          have e1 := hcba.ints
          subst e1
          refine ⟨d2, dx2, cb, out, rfl, upd_same, k0.sqT hcb, oo, by omega, by omega, fun l2 e2 H25 D25 e25 hl2 he2 => ⟨rfl, ?_⟩⟩
          have k25 : Kp [] H24 H25 := Kp.hide1 k0 e25 nd2
          have R25 := R24.kp k25 (by simp) (by simp)
          have nda2 : d2 ≠ a := ne_free R24.da nd2
          have ndb2 : d2 ≠ b := ne_free R24.db nd2
          have nla2 : l2 ≠ a := ne_free (R24.kp k0 (by simp) (by simp)).da hl2
          have nlb2 : l2 ≠ b := ne_free (R24.kp k0 (by simp) (by simp)).db hl2
          have nea2 : e2 ≠ a := ne_free (R24.kp k0 (by simp) (by simp)).da he2
          have neb2 : e2 ≠ b := ne_free (R24.kp k0 (by simp) (by simp)).db he2
          walk_at "kp"
          intro j2 jx2 nj2 njx2 njex2
          have k2 : Kp [] H25 (upd (upd H25 jx2 (.own j2)) j2 (.ins C_Journal jx2 [])) := Kp.ins nj2 njx2 njex2
          have D26 := D25.kp k2 (by simp) (by simp) (by simp)
          obtain ⟨o3, fin3, h03, ho3, hE3⟩ := hfull
          have hs3 : o3 % 2 = (((o3 % 2).toNat : Nat) : Int) := by omega
          obtain ⟨s3, hs3e⟩ : ∃ s3, s3 = (o3 % 2).toNat := ⟨_, rfl⟩
          rw [← hs3e] at hs3 hE3
          have s31 : s3 ≤ 1 := by omega
          refine ⟨j2, jx2, d2, cb, l2, e2, out, [], o3, s3, new, fin3, rfl, upd_same, D26, by omega, by omega, h03, hs3, hE3, fun H27 r3 J27 e27 hr3 => ⟨rfl, ?_⟩⟩
          have k27 : Kp [] H25 H27 := Kp.hide1 k2 e27 nj2
          have nja2 : j2 ≠ a := ne_free R25.da nj2
          have njb2 : j2 ≠ b := ne_free R25.db nj2
          have nra2 : r3 ≠ a := ne_free (R25.kp k2 (by simp) (by simp)).da hr3
          have nrb2 : r3 ≠ b := ne_free (R25.kp k2 (by simp) (by simp)).db hr3
          have R27 := R25.kp k27 (by simp) (by simp)
          have il := (il.kp k25).kp k27
          have inw := (inw.kp k25).kp k27
          have icc := (icc.kp k25).kp k27
          clear k2 k27 k25 k0 e25 e27 D25 D26 R24 R25 hl2 he2 nd2 ndx2 nex2 nj2 njx2 njex2 hr3 ibh hcb hcba
          walk_at "kp"
          intro p1 hp1
          have k1 : Kp [] H27 (upd H27 p1 (.tup [vl])) := Kp.new hp1
          have i1 : Is K _ (.ref p1) (Tup.mk (tups [long])) := is_newT hp1 (.cons il .nil)
          walk_at "kp"
          refine w_slD (inw.kp k1) fun v2 H28 e28 i2 => ?_
          rw [show cutD (tups new) (some 1) none = tups (new.drop 1) by rw [show (some (1 : Int)) = some ((1 : Nat) : Int) from rfl, cutD_lo]; simp [tups]] at i2
          have k2 := k1.trans e28
          walk_at "kp"
          refine w_slD (il.kp k2) fun v3 H29 e29 i3 => ?_
          obtain ⟨m3, hm3⟩ := cutD_hii long ((sz : Int) - 9)
          rw [hm3] at i3
          have k3 := k2.trans e29
          walk_at "kp"
          intro p3 hp3
          have i3' : Is K _ (.ref p3) (Tup.mk (tups [long.take m3])) := is_newT hp3 (.cons i3 .nil)
          have e30 : Kp [] H29 (upd H29 p3 (.tup [v3])) := Kp.new hp3
          have k4 := k3.trans e30
          walk_at "kp"
          intro p4 hp4
          have i4 : Is K _ (.ref p4) (Tup.mk (tups [])) := is_newT hp4 .nil
          have e31 : Kp [] _ (upd (upd H29 p3 (.tup [v3])) p4 (.tup [])) := Kp.new hp4
          have k5 := k4.trans e31
          walk_at "kp"
          intro p5 hp5
          have e32 : Kp [] _ (upd (upd (upd H29 p3 (.tup [v3])) p4 (.tup [])) p5 (.lst [.ref p1, v2, .ref p3, .ref p4])) := Kp.new hp5
          have k6 := k5.trans e32
          have R5 := R27.kp k5 (by simp) (by simp)
          have R6 := R27.kp k6 (by simp) (by simp)
          refine ⟨a, b, p5, _, rfl, R6, SqL.of upd_same, ne_free R5.da hp5, ne_free R5.db hp5, by simp, by simp, fun i v H33 hv e33 R33 => ?_⟩
          obtain ⟨last, ila, hla, hla2, hla3⟩ : ∃ last : List (List Int), Is K H33 v (Tup.mk (tups last)) ∧ (∀ r ∈ last, r.length < 65536 ∧ Oct r) ∧ needs last ≤ needs new ∧ last.length ≤ 3 := by
            match i, hv with
            | 0, h => 
              cases Option.some.inj h
              exact ⟨[long], (((((i1.kp e28).kp e29).kp e30).kp e31).kp e32).kp e33, fun r hr => hnn r (by rw [List.mem_singleton.mp hr, hnew]; simp), by rw [hns]; simp [needs, need], by simp⟩
            | 1, h => 
              cases Option.some.inj h
              refine ⟨new.drop 1, ((((i2.kp e29).kp e30).kp e31).kp e32).kp e33, fun r hr => hnn r (List.mem_of_mem_drop hr), ?_, by simp; omega⟩
              cases new with
              | nil => simp
              | cons q qs => rw [needs_cons]; simp
            | 2, h => 
              cases Option.some.inj h
              exact ⟨[long.take m3], ((i3'.kp e31).kp e32).kp e33, fun r hr => by rw [List.mem_singleton.mp hr]; exact ⟨by rw [List.length_take]; omega, fun z hz => holl z (List.mem_of_mem_take hz)⟩, by rw [hns]; simp [needs, need]; omega, by simp⟩
            | 3, h => 
              cases Option.some.inj h
              exact ⟨[], (i4.kp e32).kp e33, (fun r hr => by cases hr), Nat.zero_le _, Nat.zero_le _⟩
            | i + 4, h => simp at h
          have k7 := k6.wide.trans e33
          have J33 := J27.kp k7 (by simp [nja2, njb2]) (by simp [nda2, ndb2]) (by simp [nla2, nlb2]) (by simp [nea2, neb2]) (by simp [nra2, nrb2])
          have icc := icc.kp k7
          clear hv e33 k6 R6 R5 R27 J27 i1 i2 i3 i3' i4 hp1 hp3 hp4 hp5 k1 k2 k3 k4 k5 k7 e28 e29 e30 e31 e32
          walk_at "kp"
          intro pt hpt
          have J34 := J33.kp (Kp.new (M := []) (o := HO.tup [.ref j2, v]) hpt) (by simp) (by simp) (by simp) (by simp) (by simp)
          have ila := ila.kp (Kp.new (M := []) (o := HO.tup [.ref j2, v]) hpt)
          have icc := icc.kp (Kp.new (M := []) (o := HO.tup [.ref j2, v]) hpt)
          refine w_gTup (SqT.of upd_same) rfl ?_
          generalize upd H33 pt (.tup [.ref j2, v]) = H34 at J34 ila icc ⊢
          walk_at "kp"
          have hb3 : half n (1 - s3) + needs last ≤ half n (1 - s3 + 1) := by rw [half_succ]; omega
          refine ⟨.ref j2, v, "renew", rfl, .inr ⟨rfl, j2, d2, cb, l2, e2, r3, out, [], s3, new, fin3, v, last, rfl, J34, ila, ?_, by omega, ?_, fun H35 r5 J35 e35 hr5 _ => ?_⟩⟩
          · rw [lo]; exact hb3
          · simp; omega
          walk_at "kp"
          obtain ⟨jx35, hj⟩ := J35.ins
          refine w_methV hj (jf_records _ _ _ _) ?_
          walk_at "kp"
          refine ⟨j2, d2, cb, l2, e2, r5, out, _, _, last, _, rfl, J35, fun H36 pr e36 ir => ?_⟩
          walk_at "kp"
          have hlr : ∀ r ∈ last, r.length ≤ 100000 := fun r hr => by have := (hla r hr).1; omega
          refine ⟨_, v, last, last, rfl, ir, (ila.kp e35).kp e36, by omega, hlr, fun H37 e37 => ?_⟩
          rw [decide_eq_true rfl]
          have J37 := (J35.kp e36 (by simp) (by simp) (by simp) (by simp) (by simp)).kp e37 (by simp) (by simp) (by simp) (by simp) (by simp)
          have ila := ((ila.kp e35).kp e36).kp e37
          have icc := ((icc.kp e35).kp e36).kp e37
          clear e35 e36 e37 J35 J34 J33 hj ir
          obtain ⟨evs3, hev3⟩ : ∃ es, es = rE (half n (1 - s3)) (half n (1 - s3 + 1)) (1 - s3) last := ⟨_, rfl⟩
          rw [lo, List.nil_append, ← hev3] at J37
          have hb4 := has_renew (now := out) (rs := last) (s := 1 - s3) lo (by omega) (by omega) hb3
          rw [← hev3] at hb4
          have hok3 : Oks 0 n evs3 := by
            rw [hev3]
            exact oks_rE hb3 (half_le (by omega) (by omega)) (by omega) (by omega) hla
          have lfin : (ap out evs3).length = n := by rw [ap_length]; exact lo
          walk_at "kp"
          refine w_lenD icc ?_
          walk_at "kp"
          refine w_lcR1V K n (by rw [csl]) Int [] (fun _ => True) (fun i acc => acc = (ap out evs3).take i) (by omega) (by simp) True.intro (fun _ _ _ _ _ => True.intro) (by simp) (fun i acc H38 QE QF hi e38 _ hj hl1 kE kF => ?_) ?_
          · walk_at "kp"
            refine ⟨rfl, ?_⟩
            have J38 := J37.kp e38 (by simp) (by simp) (by simp) (by simp) (by simp)
            obtain ⟨jx38, hj38⟩ := J38.ins
            walk_at "kp"
            refine w_fldV hj38 T.cl_Journal T.na_Journal_disk (jf_d _ _ _ _) ?_
            walk_at "kp"
            obtain ⟨dx38, hd38⟩ := J38.disk.ins
            refine w_methV hd38 (df_look _ _ _) ?_
            walk_at "kp"
            have hz : (ap out evs3)[i]? = some ((ap out evs3)[i]'(by omega)) := by simp [lfin, hi]
            refine ⟨d2, cb, l2, e2, out, evs3, i, _, rfl, J38.disk, hz, ?_⟩
            refine kE _ _ _ Kp.refl True.intro (is_int _) ?_
            rw [hj, List.take_add_one, hz]
            rfl
          · intro D' vs2 ys2 H38 hD' e38 _ hj hlen hall2 hH38
            rw [List.take_of_length_le (by omega)] at hj
            subst hj
            walk_at "kp"
            refine w_tupD hH38 hall2 fun vz H39 e39 iz => ?_
            walk_at "kp"
            refine ⟨vz, v, ap out evs3, last, last, rfl, iz, (ila.kp e38).kp e39, oct_ap evs3 out oo fun i o m => ⟨(hok3 i o m).2.2.1, (hok3 i o m).2.2.2⟩, by omega, by omega, hb4.1, by omega, hlr, fun H40 e40 => ?_⟩
            rw [decide_eq_true rfl]
            exact k _
end
end K92
namespace K92
open PySem PySem.Spec PyProof.Rows L2 KP
open C8 (fnScope fnBody fnArgs fnScope_by)
theorem all_mk {l : PySem.W.OpenLaw} {w : World} {K : PySem.W.Frag} {h : Heap} {mg : Str → Option Value} {fa C_Disk C_Journal f0 f1 f2 f3 f4 f5 f6 f7 f8 f9 f10 f11 f12 f13 f14 f15 f16 f17 f18 f19 f20 f21 f22 f23 f24 f25 f26 f27 : Addr} (X : K.In h) (G : h.Ns mainGlobals mg) (hfa : mg "law" = some (.ref fa))
    {od0 an0 od1 an1 od2 an2 od3 an3 od4 an4 od5 an5 od6 an6 od7 an7 od8 an8 od9 an9 od10 an10 od11 an11 od12 an12 od13 an13 od14 an14 od15 an15 od16 an16 od17 an17 od18 an18 od19 an19 od20 an20 od21 an21 od22 an22 od23 an23 od24 an24 od25 an25 od26 an26 od27 an27 : Option Addr} {sl0 sl1 sl2 sl3 sl4 sl5 sl6 sl7 sl8 sl9 sl10 sl11 sl12 sl13 sl14 sl15 sl16 sl17 sl18 sl19 sl20 sl21 sl22 sl23 sl24 sl25 sl26 sl27 : Array (Option Value)} {oc0 kV0 dc0 pm0 cd0 ct0 oc1 kV1 dc1 pm1 cd1 ct1 oc2 kV2 dc2 pm2 cd2 ct2 oc3 kV3 dc3 pm3 cd3 ct3 oc4 kV4 dc4 pm4 cd4 ct4 oc5 kV5 dc5 pm5 cd5 ct5 oc6 kV6 dc6 pm6 cd6 ct6 oc7 kV7 dc7 pm7 cd7 ct7 oc8 kV8 dc8 pm8 cd8 ct8 oc9 kV9 dc9 pm9 cd9 ct9 oc10 kV10 dc10 pm10 cd10 ct10 oc11 kV11 dc11 pm11 cd11 ct11 oc12 kV12 dc12 pm12 cd12 ct12 oc13 kV13 dc13 pm13 cd13 ct13 oc14 kV14 dc14 pm14 cd14 ct14 oc15 kV15 dc15 pm15 cd15 ct15 oc16 kV16 dc16 pm16 cd16 ct16 oc17 kV17 dc17 pm17 cd17 ct17 oc18 kV18 dc18 pm18 cd18 ct18 oc19 kV19 dc19 pm19 cd19 ct19 oc20 kV20 dc20 pm20 cd20 ct20 oc21 kV21 dc21 pm21 cd21 ct21 oc22 kV22 dc22 pm22 cd22 ct22 oc23 kV23 dc23 pm23 cd23 ct23 oc24 kV24 dc24 pm24 cd24 ct24 oc25 kV25 dc25 pm25 cd25 ct25 oc26 kV26 dc26 pm26 cd26 ct26 oc27 kV27 dc27 pm27 cd27 ct27 : Value} {tk_MOST_CELLS tk_OCTETS tk_HEAD tk_MARK : Tok}
    (aC_Disk : PySem.W.nsIn K mainGlobals "Disk" = some (some (.ref C_Disk)))
    (aC_Journal : PySem.W.nsIn K mainGlobals "Journal" = some (some (.ref C_Journal)))
    (a0 : PySem.W.findIn K (.ref C_Disk) "__init__" = some (some (.ref f0)))
    (i0 : PySem.W.isFn K (.ref f0) = true)
    (l0 : K.lookup f0 = some ⟨oc0, od0, .func (PySem.W.fnOf "__init__" "Disk.__init__" (fnArgs s_Disk___init__) (fnBody s_Disk___init__) (fnScope s_Disk___init__) .none kV0 dc0 pm0 an0 cd0 ct0), sl0⟩)
    (c0 : PySem.W.codeIn K cd0 "Disk.__init__" = true)
    (k0 : PySem.W.keepIn K (.ref f0) = true)
    (a1 : PySem.W.findIn K (.ref C_Disk) "look" = some (some (.ref f1)))
    (i1 : PySem.W.isFn K (.ref f1) = true)
    (l1 : K.lookup f1 = some ⟨oc1, od1, .func (PySem.W.fnOf "look" "Disk.look" (fnArgs s_Disk_look) (fnBody s_Disk_look) (fnScope s_Disk_look) .none kV1 dc1 pm1 an1 cd1 ct1), sl1⟩)
    (c1 : PySem.W.codeIn K cd1 "Disk.look" = true)
    (k1 : PySem.W.keepIn K (.ref f1) = true)
    (a2 : PySem.W.findIn K (.ref C_Disk) "put" = some (some (.ref f2)))
    (i2 : PySem.W.isFn K (.ref f2) = true)
    (l2 : K.lookup f2 = some ⟨oc2, od2, .func (PySem.W.fnOf "put" "Disk.put" (fnArgs s_Disk_put) (fnBody s_Disk_put) (fnScope s_Disk_put) .none kV2 dc2 pm2 an2 cd2 ct2), sl2⟩)
    (c2 : PySem.W.codeIn K cd2 "Disk.put" = true)
    (k2 : PySem.W.keepIn K (.ref f2) = true)
    (a3 : PySem.W.findIn K (.ref C_Disk) "flush" = some (some (.ref f3)))
    (i3 : PySem.W.isFn K (.ref f3) = true)
    (l3 : K.lookup f3 = some ⟨oc3, od3, .func (PySem.W.fnOf "flush" "Disk.flush" (fnArgs s_Disk_flush) (fnBody s_Disk_flush) (fnScope s_Disk_flush) .none kV3 dc3 pm3 an3 cd3 ct3), sl3⟩)
    (c3 : PySem.W.codeIn K cd3 "Disk.flush" = true)
    (k3 : PySem.W.keepIn K (.ref f3) = true)
    (a4 : PySem.W.findIn K (.ref C_Disk) "events" = some (some (.ref f4)))
    (i4 : PySem.W.isFn K (.ref f4) = true)
    (l4 : K.lookup f4 = some ⟨oc4, od4, .func (PySem.W.fnOf "events" "Disk.events" (fnArgs s_Disk_events) (fnBody s_Disk_events) (fnScope s_Disk_events) .none kV4 dc4 pm4 an4 cd4 ct4), sl4⟩)
    (c4 : PySem.W.codeIn K cd4 "Disk.events" = true)
    (k4 : PySem.W.keepIn K (.ref f4) = true)
    (a5 : PySem.W.findIn K (.ref C_Journal) "__init__" = some (some (.ref f5)))
    (i5 : PySem.W.isFn K (.ref f5) = true)
    (l5 : K.lookup f5 = some ⟨oc5, od5, .func (PySem.W.fnOf "__init__" "Journal.__init__" (fnArgs s_Journal___init__) (fnBody s_Journal___init__) (fnScope s_Journal___init__) .none kV5 dc5 pm5 an5 cd5 ct5), sl5⟩)
    (c5 : PySem.W.codeIn K cd5 "Journal.__init__" = true)
    (k5 : PySem.W.keepIn K (.ref f5) = true)
    (a6 : PySem.W.findIn K (.ref C_Journal) "records" = some (some (.ref f6)))
    (i6 : PySem.W.isFn K (.ref f6) = true)
    (l6 : K.lookup f6 = some ⟨oc6, od6, .func (PySem.W.fnOf "records" "Journal.records" (fnArgs s_Journal_records) (fnBody s_Journal_records) (fnScope s_Journal_records) .none kV6 dc6 pm6 an6 cd6 ct6), sl6⟩)
    (c6 : PySem.W.codeIn K cd6 "Journal.records" = true)
    (k6 : PySem.W.keepIn K (.ref f6) = true)
    (a7 : PySem.W.findIn K (.ref C_Journal) "write" = some (some (.ref f7)))
    (i7 : PySem.W.isFn K (.ref f7) = true)
    (l7 : K.lookup f7 = some ⟨oc7, od7, .func (PySem.W.fnOf "write" "Journal.write" (fnArgs s_Journal_write) (fnBody s_Journal_write) (fnScope s_Journal_write) .none kV7 dc7 pm7 an7 cd7 ct7), sl7⟩)
    (c7 : PySem.W.codeIn K cd7 "Journal.write" = true)
    (k7 : PySem.W.keepIn K (.ref f7) = true)
    (a8 : PySem.W.findIn K (.ref C_Journal) "renew" = some (some (.ref f8)))
    (i8 : PySem.W.isFn K (.ref f8) = true)
    (l8 : K.lookup f8 = some ⟨oc8, od8, .func (PySem.W.fnOf "renew" "Journal.renew" (fnArgs s_Journal_renew) (fnBody s_Journal_renew) (fnScope s_Journal_renew) .none kV8 dc8 pm8 an8 cd8 ct8), sl8⟩)
    (c8 : PySem.W.codeIn K cd8 "Journal.renew" = true)
    (k8 : PySem.W.keepIn K (.ref f8) = true)
    (a9 : PySem.W.nsIn K mainGlobals "is_integer" = some (some (.ref f9)))
    (l9 : K.lookup f9 = some ⟨oc9, od9, .func (PySem.W.fnOf "is_integer" "is_integer" (fnArgs s_is_integer) (fnBody s_is_integer) (fnScope s_is_integer) .none kV9 dc9 pm9 an9 cd9 ct9), sl9⟩)
    (c9 : PySem.W.codeIn K cd9 "is_integer" = true)
    (k9 : PySem.W.keepIn K (.ref f9) = true)
    (a10 : PySem.W.nsIn K mainGlobals "is_number" = some (some (.ref f10)))
    (l10 : K.lookup f10 = some ⟨oc10, od10, .func (PySem.W.fnOf "is_number" "is_number" (fnArgs s_is_number) (fnBody s_is_number) (fnScope s_is_number) .none kV10 dc10 pm10 an10 cd10 ct10), sl10⟩)
    (c10 : PySem.W.codeIn K cd10 "is_number" = true)
    (k10 : PySem.W.keepIn K (.ref f10) = true)
    (a11 : PySem.W.nsIn K mainGlobals "is_octet" = some (some (.ref f11)))
    (l11 : K.lookup f11 = some ⟨oc11, od11, .func (PySem.W.fnOf "is_octet" "is_octet" (fnArgs s_is_octet) (fnBody s_is_octet) (fnScope s_is_octet) .none kV11 dc11 pm11 an11 cd11 ct11), sl11⟩)
    (c11 : PySem.W.codeIn K cd11 "is_octet" = true)
    (k11 : PySem.W.keepIn K (.ref f11) = true)
    (a12 : PySem.W.nsIn K mainGlobals "half_start" = some (some (.ref f12)))
    (l12 : K.lookup f12 = some ⟨oc12, od12, .func (PySem.W.fnOf "half_start" "half_start" (fnArgs s_half_start) (fnBody s_half_start) (fnScope s_half_start) .none kV12 dc12 pm12 an12 cd12 ct12), sl12⟩)
    (c12 : PySem.W.codeIn K cd12 "half_start" = true)
    (k12 : PySem.W.keepIn K (.ref f12) = true)
    (a13 : PySem.W.nsIn K mainGlobals "records_from" = some (some (.ref f13)))
    (l13 : K.lookup f13 = some ⟨oc13, od13, .func (PySem.W.fnOf "records_from" "records_from" (fnArgs s_records_from) (fnBody s_records_from) (fnScope s_records_from) .none kV13 dc13 pm13 an13 cd13 ct13), sl13⟩)
    (c13 : PySem.W.codeIn K cd13 "records_from" = true)
    (k13 : PySem.W.keepIn K (.ref f13) = true)
    (a14 : PySem.W.nsIn K mainGlobals "needed_cells" = some (some (.ref f14)))
    (l14 : K.lookup f14 = some ⟨oc14, od14, .func (PySem.W.fnOf "needed_cells" "needed_cells" (fnArgs s_needed_cells) (fnBody s_needed_cells) (fnScope s_needed_cells) .none kV14 dc14 pm14 an14 cd14 ct14), sl14⟩)
    (c14 : PySem.W.codeIn K cd14 "needed_cells" = true)
    (k14 : PySem.W.keepIn K (.ref f14) = true)
    (a15 : PySem.W.nsIn K mainGlobals "put_record" = some (some (.ref f15)))
    (l15 : K.lookup f15 = some ⟨oc15, od15, .func (PySem.W.fnOf "put_record" "put_record" (fnArgs s_put_record) (fnBody s_put_record) (fnScope s_put_record) .none kV15 dc15 pm15 an15 cd15 ct15), sl15⟩)
    (c15 : PySem.W.codeIn K cd15 "put_record" = true)
    (k15 : PySem.W.keepIn K (.ref f15) = true)
    (a16 : PySem.W.nsIn K mainGlobals "put_end" = some (some (.ref f16)))
    (l16 : K.lookup f16 = some ⟨oc16, od16, .func (PySem.W.fnOf "put_end" "put_end" (fnArgs s_put_end) (fnBody s_put_end) (fnScope s_put_end) .none kV16 dc16 pm16 an16 cd16 ct16), sl16⟩)
    (c16 : PySem.W.codeIn K cd16 "put_end" = true)
    (k16 : PySem.W.keepIn K (.ref f16) = true)
    (a17 : PySem.W.nsIn K mainGlobals "_law_heap" = some (some (.ref f17)))
    (l17 : K.lookup f17 = some ⟨oc17, od17, .func (PySem.W.fnOf "_law_heap" "_law_heap" (fnArgs s__law_heap) (fnBody s__law_heap) (fnScope s__law_heap) .none kV17 dc17 pm17 an17 cd17 ct17), sl17⟩)
    (c17 : PySem.W.codeIn K cd17 "_law_heap" = true)
    (k17 : PySem.W.keepIn K (.ref f17) = true)
    (a18 : PySem.W.nsIn K mainGlobals "_law_draw" = some (some (.ref f18)))
    (l18 : K.lookup f18 = some ⟨oc18, od18, .func (PySem.W.fnOf "_law_draw" "_law_draw" (fnArgs s__law_draw) (fnBody s__law_draw) (fnScope s__law_draw) .none kV18 dc18 pm18 an18 cd18 ct18), sl18⟩)
    (c18 : PySem.W.codeIn K cd18 "_law_draw" = true)
    (k18 : PySem.W.keepIn K (.ref f18) = true)
    (a19 : PySem.W.nsIn K mainGlobals "_law_pick" = some (some (.ref f19)))
    (l19 : K.lookup f19 = some ⟨oc19, od19, .func (PySem.W.fnOf "_law_pick" "_law_pick" (fnArgs s__law_pick) (fnBody s__law_pick) (fnScope s__law_pick) .none kV19 dc19 pm19 an19 cd19 ct19), sl19⟩)
    (c19 : PySem.W.codeIn K cd19 "_law_pick" = true)
    (k19 : PySem.W.keepIn K (.ref f19) = true)
    (a20 : PySem.W.nsIn K mainGlobals "_law_is_record" = some (some (.ref f20)))
    (l20 : K.lookup f20 = some ⟨oc20, od20, .func (PySem.W.fnOf "_law_is_record" "_law_is_record" (fnArgs s__law_is_record) (fnBody s__law_is_record) (fnScope s__law_is_record) .none kV20 dc20 pm20 an20 cd20 ct20), sl20⟩)
    (c20 : PySem.W.codeIn K cd20 "_law_is_record" = true)
    (k20 : PySem.W.keepIn K (.ref f20) = true)
    (a21 : PySem.W.nsIn K mainGlobals "_law_left" = some (some (.ref f21)))
    (l21 : K.lookup f21 = some ⟨oc21, od21, .func (PySem.W.fnOf "_law_left" "_law_left" (fnArgs s__law_left) (fnBody s__law_left) (fnScope s__law_left) .none kV21 dc21 pm21 an21 cd21 ct21), sl21⟩)
    (c21 : PySem.W.codeIn K cd21 "_law_left" = true)
    (k21 : PySem.W.keepIn K (.ref f21) = true)
    (a22 : PySem.W.nsIn K mainGlobals "_law_base" = some (some (.ref f22)))
    (l22 : K.lookup f22 = some ⟨oc22, od22, .func (PySem.W.fnOf "_law_base" "_law_base" (fnArgs s__law_base) (fnBody s__law_base) (fnScope s__law_base) .none kV22 dc22 pm22 an22 cd22 ct22), sl22⟩)
    (c22 : PySem.W.codeIn K cd22 "_law_base" = true)
    (k22 : PySem.W.keepIn K (.ref f22) = true)
    (a23 : PySem.W.nsIn K mainGlobals "_law_record" = some (some (.ref f23)))
    (l23 : K.lookup f23 = some ⟨oc23, od23, .func (PySem.W.fnOf "_law_record" "_law_record" (fnArgs s__law_record) (fnBody s__law_record) (fnScope s__law_record) .none kV23 dc23 pm23 an23 cd23 ct23), sl23⟩)
    (c23 : PySem.W.codeIn K cd23 "_law_record" = true)
    (k23 : PySem.W.keepIn K (.ref f23) = true)
    (a24 : PySem.W.nsIn K mainGlobals "_law_are_records" = some (some (.ref f24)))
    (l24 : K.lookup f24 = some ⟨oc24, od24, .func (PySem.W.fnOf "_law_are_records" "_law_are_records" (fnArgs s__law_are_records) (fnBody s__law_are_records) (fnScope s__law_are_records) .none kV24 dc24 pm24 an24 cd24 ct24), sl24⟩)
    (c24 : PySem.W.codeIn K cd24 "_law_are_records" = true)
    (k24 : PySem.W.keepIn K (.ref f24) = true)
    (a25 : PySem.W.nsIn K mainGlobals "_law_on" = some (some (.ref f25)))
    (l25 : K.lookup f25 = some ⟨oc25, od25, .func (PySem.W.fnOf "_law_on" "_law_on" (fnArgs s__law_on) (fnBody s__law_on) (fnScope s__law_on) .none kV25 dc25 pm25 an25 cd25 ct25), sl25⟩)
    (c25 : PySem.W.codeIn K cd25 "_law_on" = true)
    (k25 : PySem.W.keepIn K (.ref f25) = true)
    (a26 : PySem.W.nsIn K mainGlobals "_law_done" = some (some (.ref f26)))
    (l26 : K.lookup f26 = some ⟨oc26, od26, .func (PySem.W.fnOf "_law_done" "_law_done" (fnArgs s__law_done) (fnBody s__law_done) (fnScope s__law_done) .none kV26 dc26 pm26 an26 cd26 ct26), sl26⟩)
    (c26 : PySem.W.codeIn K cd26 "_law_done" = true)
    (k26 : PySem.W.keepIn K (.ref f26) = true)
    (a27 : PySem.W.nsIn K mainGlobals "law" = some (some (.ref f27)))
    (l27 : K.lookup f27 = some ⟨oc27, od27, .func (PySem.W.fnOf "law" "law" (fnArgs s_law) (fnBody s_law) (fnScope s_law) .none kV27 dc27 pm27 an27 cd27 ct27), sl27⟩)
    (c27 : PySem.W.codeIn K cd27 "law" = true)
    (k27 : PySem.W.keepIn K (.ref f27) = true)
    (pg_Disk : PySem.W.plainGet K C_Disk Str.empty = true)
    (hd_Disk : PySem.W.hasDictIn K C_Disk = true)
    (po_Disk : PySem.W.plainOver K C_Disk = true)
    (sa_Disk : PySem.W.findIn K (.ref C_Disk) "__setattr__" = some (some (.builtin "object.__setattr__")))
    (mk_Disk : PySem.W.makesIn K C_Disk = true)
    (kc_Disk : PySem.W.keepIn K (.ref C_Disk) = true)
    (na_Disk_cells : PySem.W.findIn K (.ref C_Disk) "cells" = some none)
    (na_Disk__octets : PySem.W.findIn K (.ref C_Disk) "_octets" = some none)
    (na_Disk__events : PySem.W.findIn K (.ref C_Disk) "_events" = some none)
    (pg_Journal : PySem.W.plainGet K C_Journal Str.empty = true)
    (hd_Journal : PySem.W.hasDictIn K C_Journal = true)
    (po_Journal : PySem.W.plainOver K C_Journal = true)
    (sa_Journal : PySem.W.findIn K (.ref C_Journal) "__setattr__" = some (some (.builtin "object.__setattr__")))
    (mk_Journal : PySem.W.makesIn K C_Journal = true)
    (kc_Journal : PySem.W.keepIn K (.ref C_Journal) = true)
    (na_Journal_disk : PySem.W.findIn K (.ref C_Journal) "disk" = some none)
    (na_Journal__side : PySem.W.findIn K (.ref C_Journal) "_side" = some none)
    (na_Journal__records : PySem.W.findIn K (.ref C_Journal) "_records" = some none)
    (na_Journal__end : PySem.W.findIn K (.ref C_Journal) "_end" = some none)
    (z_abs : PySem.W.nsIn K mainGlobals "abs" = some none)
    (z_all : PySem.W.nsIn K mainGlobals "all" = some none)
    (z_bool : PySem.W.nsIn K mainGlobals "bool" = some none)
    (z_enumerate : PySem.W.nsIn K mainGlobals "enumerate" = some none)
    (z_int : PySem.W.nsIn K mainGlobals "int" = some none)
    (z_isinstance : PySem.W.nsIn K mainGlobals "isinstance" = some none)
    (z_len : PySem.W.nsIn K mainGlobals "len" = some none)
    (z_list : PySem.W.nsIn K mainGlobals "list" = some none)
    (z_max : PySem.W.nsIn K mainGlobals "max" = some none)
    (z_range : PySem.W.nsIn K mainGlobals "range" = some none)
    (z_sum : PySem.W.nsIn K mainGlobals "sum" = some none)
    (z_tuple : PySem.W.nsIn K mainGlobals "tuple" = some none)
    (g_MOST_CELLS : PySem.W.nsIn K mainGlobals "MOST_CELLS" = some (some (.int 20000 tk_MOST_CELLS)))
    (g_OCTETS : PySem.W.nsIn K mainGlobals "OCTETS" = some (some (.int 256 tk_OCTETS)))
    (g_HEAD : PySem.W.nsIn K mainGlobals "HEAD" = some (some (.int 3 tk_HEAD)))
    (g_MARK : PySem.W.nsIn K mainGlobals "MARK" = some (some (.int 1 tk_MARK)))
    : ∃ fd : FuncData, (∀ (s : Shared) (v : Value), BindsTo s fd ⟨[v], []⟩ [("script", v)]) ∧ ∀ base : Heap, K.In base → base.Ns mainGlobals mg → FnOk l.prog w K mg base C8.CX0 7 fa fd ["script"] (spLaw K) := by
  have e := hfa.symm.trans (PySem.W.mg_of X G a27)
  cases e
  have F0 : C8.Fun K "__init__" "Disk.__init__" s_Disk___init__ _ _ := ⟨⟨_, _, _, _, _, _, _, _, _, _, rfl, l0, c0⟩⟩
  have b0 := F0.binds rfl (ps := ["self", "cells"]) fun _ _ _ _ _ _ us hl => match us, hl with | [_, _], _ => rfl
  have F1 : C8.Fun K "look" "Disk.look" s_Disk_look _ _ := ⟨⟨_, _, _, _, _, _, _, _, _, _, rfl, l1, c1⟩⟩
  have b1 := F1.binds rfl (ps := ["self", "at"]) fun _ _ _ _ _ _ us hl => match us, hl with | [_, _], _ => rfl
  have F2 : C8.Fun K "put" "Disk.put" s_Disk_put _ _ := ⟨⟨_, _, _, _, _, _, _, _, _, _, rfl, l2, c2⟩⟩
  have b2 := F2.binds rfl (ps := ["self", "at", "octet"]) fun _ _ _ _ _ _ us hl => match us, hl with | [_, _, _], _ => rfl
  have F3 : C8.Fun K "flush" "Disk.flush" s_Disk_flush _ _ := ⟨⟨_, _, _, _, _, _, _, _, _, _, rfl, l3, c3⟩⟩
  have b3 := F3.binds rfl (ps := ["self"]) fun _ _ _ _ _ _ us hl => match us, hl with | [_], _ => rfl
  have F4 : C8.Fun K "events" "Disk.events" s_Disk_events _ _ := ⟨⟨_, _, _, _, _, _, _, _, _, _, rfl, l4, c4⟩⟩
  have b4 := F4.binds rfl (ps := ["self"]) fun _ _ _ _ _ _ us hl => match us, hl with | [_], _ => rfl
  have F5 : C8.Fun K "__init__" "Journal.__init__" s_Journal___init__ _ _ := ⟨⟨_, _, _, _, _, _, _, _, _, _, rfl, l5, c5⟩⟩
  have b5 := F5.binds rfl (ps := ["self", "disk"]) fun _ _ _ _ _ _ us hl => match us, hl with | [_, _], _ => rfl
  have F6 : C8.Fun K "records" "Journal.records" s_Journal_records _ _ := ⟨⟨_, _, _, _, _, _, _, _, _, _, rfl, l6, c6⟩⟩
  have b6 := F6.binds rfl (ps := ["self"]) fun _ _ _ _ _ _ us hl => match us, hl with | [_], _ => rfl
  have F7 : C8.Fun K "write" "Journal.write" s_Journal_write _ _ := ⟨⟨_, _, _, _, _, _, _, _, _, _, rfl, l7, c7⟩⟩
  have b7 := F7.binds rfl (ps := ["self", "record"]) fun _ _ _ _ _ _ us hl => match us, hl with | [_, _], _ => rfl
  have F8 : C8.Fun K "renew" "Journal.renew" s_Journal_renew _ _ := ⟨⟨_, _, _, _, _, _, _, _, _, _, rfl, l8, c8⟩⟩
  have b8 := F8.binds rfl (ps := ["self", "records"]) fun _ _ _ _ _ _ us hl => match us, hl with | [_, _], _ => rfl
  have F9 : C8.Fun K "is_integer" "is_integer" s_is_integer _ _ := ⟨⟨_, _, _, _, _, _, _, _, _, _, rfl, l9, c9⟩⟩
  have b9 := F9.binds rfl (ps := ["value"]) fun _ _ _ _ _ _ us hl => match us, hl with | [_], _ => rfl
  have F10 : C8.Fun K "is_number" "is_number" s_is_number _ _ := ⟨⟨_, _, _, _, _, _, _, _, _, _, rfl, l10, c10⟩⟩
  have b10 := F10.binds rfl (ps := ["value"]) fun _ _ _ _ _ _ us hl => match us, hl with | [_], _ => rfl
  have F11 : C8.Fun K "is_octet" "is_octet" s_is_octet _ _ := ⟨⟨_, _, _, _, _, _, _, _, _, _, rfl, l11, c11⟩⟩
  have b11 := F11.binds rfl (ps := ["value"]) fun _ _ _ _ _ _ us hl => match us, hl with | [_], _ => rfl
  have F12 : C8.Fun K "half_start" "half_start" s_half_start _ _ := ⟨⟨_, _, _, _, _, _, _, _, _, _, rfl, l12, c12⟩⟩
  have b12 := F12.binds rfl (ps := ["disk", "side"]) fun _ _ _ _ _ _ us hl => match us, hl with | [_, _], _ => rfl
  have F13 : C8.Fun K "records_from" "records_from" s_records_from _ _ := ⟨⟨_, _, _, _, _, _, _, _, _, _, rfl, l13, c13⟩⟩
  have b13 := F13.binds rfl (ps := ["disk", "start", "stop"]) fun _ _ _ _ _ _ us hl => match us, hl with | [_, _, _], _ => rfl
  have F14 : C8.Fun K "needed_cells" "needed_cells" s_needed_cells _ _ := ⟨⟨_, _, _, _, _, _, _, _, _, _, rfl, l14, c14⟩⟩
  have b14 := F14.binds rfl (ps := ["records"]) fun _ _ _ _ _ _ us hl => match us, hl with | [_], _ => rfl
  have F15 : C8.Fun K "put_record" "put_record" s_put_record _ _ := ⟨⟨_, _, _, _, _, _, _, _, _, _, rfl, l15, c15⟩⟩
  have b15 := F15.binds rfl (ps := ["disk", "at", "record"]) fun _ _ _ _ _ _ us hl => match us, hl with | [_, _, _], _ => rfl
  have F16 : C8.Fun K "put_end" "put_end" s_put_end _ _ := ⟨⟨_, _, _, _, _, _, _, _, _, _, rfl, l16, c16⟩⟩
  have b16 := F16.binds rfl (ps := ["disk", "at", "stop"]) fun _ _ _ _ _ _ us hl => match us, hl with | [_, _, _], _ => rfl
  have F17 : C8.Fun K "_law_heap" "_law_heap" s__law_heap _ _ := ⟨⟨_, _, _, _, _, _, _, _, _, _, rfl, l17, c17⟩⟩
  have b17 := F17.binds rfl (ps := ["script"]) fun _ _ _ _ _ _ us hl => match us, hl with | [_], _ => rfl
  have F18 : C8.Fun K "_law_draw" "_law_draw" s__law_draw _ _ := ⟨⟨_, _, _, _, _, _, _, _, _, _, rfl, l18, c18⟩⟩
  have b18 := F18.binds rfl (ps := ["heap", "many"]) fun _ _ _ _ _ _ us hl => match us, hl with | [_, _], _ => rfl
  have F19 : C8.Fun K "_law_pick" "_law_pick" s__law_pick _ _ := ⟨⟨_, _, _, _, _, _, _, _, _, _, rfl, l19, c19⟩⟩
  have b19 := F19.binds rfl (ps := ["heap", "some"]) fun _ _ _ _ _ _ us hl => match us, hl with | [_, _], _ => rfl
  have F20 : C8.Fun K "_law_is_record" "_law_is_record" s__law_is_record _ _ := ⟨⟨_, _, _, _, _, _, _, _, _, _, rfl, l20, c20⟩⟩
  have b20 := F20.binds rfl (ps := ["told", "due"]) fun _ _ _ _ _ _ us hl => match us, hl with | [_, _], _ => rfl
  have F21 : C8.Fun K "_law_left" "_law_left" s__law_left _ _ := ⟨⟨_, _, _, _, _, _, _, _, _, _, rfl, l21, c21⟩⟩
  have b21 := F21.binds rfl (ps := ["heap", "cells", "events"]) fun _ _ _ _ _ _ us hl => match us, hl with | [_, _, _], _ => rfl
  have F22 : C8.Fun K "_law_base" "_law_base" s__law_base _ _ := ⟨⟨_, _, _, _, _, _, _, _, _, _, rfl, l22, c22⟩⟩
  have b22 := F22.binds rfl (ps := ["cells", "events"]) fun _ _ _ _ _ _ us hl => match us, hl with | [_, _], _ => rfl
  have F23 : C8.Fun K "_law_record" "_law_record" s__law_record _ _ := ⟨⟨_, _, _, _, _, _, _, _, _, _, rfl, l23, c23⟩⟩
  have b23 := F23.binds rfl (ps := ["heap", "size"]) fun _ _ _ _ _ _ us hl => match us, hl with | [_, _], _ => rfl
  have F24 : C8.Fun K "_law_are_records" "_law_are_records" s__law_are_records _ _ := ⟨⟨_, _, _, _, _, _, _, _, _, _, rfl, l24, c24⟩⟩
  have b24 := F24.binds rfl (ps := ["told", "due"]) fun _ _ _ _ _ _ us hl => match us, hl with | [_, _], _ => rfl
  have F25 : C8.Fun K "_law_on" "_law_on" s__law_on _ _ := ⟨⟨_, _, _, _, _, _, _, _, _, _, rfl, l25, c25⟩⟩
  have b25 := F25.binds rfl (ps := ["cells", "due"]) fun _ _ _ _ _ _ us hl => match us, hl with | [_, _], _ => rfl
  have F26 : C8.Fun K "_law_done" "_law_done" s__law_done _ _ := ⟨⟨_, _, _, _, _, _, _, _, _, _, rfl, l26, c26⟩⟩
  have b26 := F26.binds rfl (ps := ["journal", "word", "what"]) fun _ _ _ _ _ _ us hl => match us, hl with | [_, _, _], _ => rfl
  have F27 : C8.Fun K "law" "law" s_law _ _ := ⟨⟨_, _, _, _, _, _, _, _, _, _, rfl, l27, c27⟩⟩
  have b27 := F27.binds rfl (ps := ["script"]) fun _ _ _ _ _ _ us hl => match us, hl with | [_], _ => rfl
  have T : Txt K mg C_Disk C_Journal := {
    m_abs := PySem.W.mg_none_of X G z_abs
    m_all := PySem.W.mg_none_of X G z_all
    m_bool := PySem.W.mg_none_of X G z_bool
    m_enumerate := PySem.W.mg_none_of X G z_enumerate
    m_int := PySem.W.mg_none_of X G z_int
    m_isinstance := PySem.W.mg_none_of X G z_isinstance
    m_len := PySem.W.mg_none_of X G z_len
    m_list := PySem.W.mg_none_of X G z_list
    m_max := PySem.W.mg_none_of X G z_max
    m_range := PySem.W.mg_none_of X G z_range
    m_sum := PySem.W.mg_none_of X G z_sum
    m_tuple := PySem.W.mg_none_of X G z_tuple
    g_MOST_CELLS := ⟨_, PySem.W.mg_of X G g_MOST_CELLS, ⟨_, rfl⟩⟩
    g_OCTETS := ⟨_, PySem.W.mg_of X G g_OCTETS, ⟨_, rfl⟩⟩
    g_HEAD := ⟨_, PySem.W.mg_of X G g_HEAD, ⟨_, rfl⟩⟩
    g_MARK := ⟨_, PySem.W.mg_of X G g_MARK, ⟨_, rfl⟩⟩
    k_Disk := ⟨_, _, ⟨mk_Disk, a0, i0, kc_Disk⟩, PySem.W.mg_of X G aC_Disk, F0, b0⟩
    d_Disk_look := ⟨_, _, ⟨a1, i1, k1⟩, F1, b1⟩
    d_Disk_put := ⟨_, _, ⟨a2, i2, k2⟩, F2, b2⟩
    d_Disk_flush := ⟨_, _, ⟨a3, i3, k3⟩, F3, b3⟩
    d_Disk_events := ⟨_, _, ⟨a4, i4, k4⟩, F4, b4⟩
    k_Journal := ⟨_, _, ⟨mk_Journal, a5, i5, kc_Journal⟩, PySem.W.mg_of X G aC_Journal, F5, b5⟩
    d_Journal_records := ⟨_, _, ⟨a6, i6, k6⟩, F6, b6⟩
    d_Journal_write := ⟨_, _, ⟨a7, i7, k7⟩, F7, b7⟩
    d_Journal_renew := ⟨_, _, ⟨a8, i8, k8⟩, F8, b8⟩
    d_is_integer := ⟨_, _, ⟨F9, PySem.W.mg_of X G a9, k9⟩, b9⟩
    d_is_number := ⟨_, _, ⟨F10, PySem.W.mg_of X G a10, k10⟩, b10⟩
    d_is_octet := ⟨_, _, ⟨F11, PySem.W.mg_of X G a11, k11⟩, b11⟩
    d_half_start := ⟨_, _, ⟨F12, PySem.W.mg_of X G a12, k12⟩, b12⟩
    d_records_from := ⟨_, _, ⟨F13, PySem.W.mg_of X G a13, k13⟩, b13⟩
    d_needed_cells := ⟨_, _, ⟨F14, PySem.W.mg_of X G a14, k14⟩, b14⟩
    d_put_record := ⟨_, _, ⟨F15, PySem.W.mg_of X G a15, k15⟩, b15⟩
    d_put_end := ⟨_, _, ⟨F16, PySem.W.mg_of X G a16, k16⟩, b16⟩
    d__law_heap := ⟨_, _, ⟨F17, PySem.W.mg_of X G a17, k17⟩, b17⟩
    d__law_draw := ⟨_, _, ⟨F18, PySem.W.mg_of X G a18, k18⟩, b18⟩
    d__law_pick := ⟨_, _, ⟨F19, PySem.W.mg_of X G a19, k19⟩, b19⟩
    d__law_is_record := ⟨_, _, ⟨F20, PySem.W.mg_of X G a20, k20⟩, b20⟩
    d__law_left := ⟨_, _, ⟨F21, PySem.W.mg_of X G a21, k21⟩, b21⟩
    d__law_base := ⟨_, _, ⟨F22, PySem.W.mg_of X G a22, k22⟩, b22⟩
    d__law_record := ⟨_, _, ⟨F23, PySem.W.mg_of X G a23, k23⟩, b23⟩
    d__law_are_records := ⟨_, _, ⟨F24, PySem.W.mg_of X G a24, k24⟩, b24⟩
    d__law_on := ⟨_, _, ⟨F25, PySem.W.mg_of X G a25, k25⟩, b25⟩
    d__law_done := ⟨_, _, ⟨F26, PySem.W.mg_of X G a26, k26⟩, b26⟩
    d_law := ⟨_, _, ⟨F27, PySem.W.mg_of X G a27, k27⟩, b27⟩
    cl_Disk := ⟨pg_Disk, hd_Disk, po_Disk, sa_Disk⟩
    gC_Disk := PySem.W.mg_of X G aC_Disk
    na_Disk_cells := na_Disk_cells
    na_Disk__octets := na_Disk__octets
    na_Disk__events := na_Disk__events
    cl_Journal := ⟨pg_Journal, hd_Journal, po_Journal, sa_Journal⟩
    gC_Journal := PySem.W.mg_of X G aC_Journal
    na_Journal_disk := na_Journal_disk
    na_Journal__side := na_Journal__side
    na_Journal__records := na_Journal__records
    na_Journal__end := na_Journal__end
  }
  exact ⟨_, fun s v => .of_eq rfl, fun base _ _ => ok_law T F27⟩
end K92
open PySem PySem.W PyProof.Rows
set_option maxHeartbeats 0 in
theorem PySem.Challenge.cw_neverregret_k92_whole_long_records_of_jo_holds : PySem.Challenge.rw_neverregret_k92_whole_long_records_of_jo.Holds := by
  w_on; o_law; k_head; (case hw => w_witness2)
  k_fill
  refine L2.walk_of (l := PySem.Challenge.rw_neverregret_k92_whole_long_records_of_jo) (n := 63) (k := 7) (x := "script") (CX := fun _ => C8.CX0) (sp := fun w => K92.spLaw _) rfl (by decide) rfl ⟨rfl, by decide, by decide⟩ (fun w h Y => PySem.W.kIn_of Y) ?F (fun _ _ a ns hl _ hS => ⟨a, ns, rfl, hS, hl, fun _ => rfl⟩) (fun _ _ _ _ _ h => h)
  case F =>
    intro w mg fa h KX G hmg
    refine' K92.all_mk KX G hmg ?aC_Disk ?aC_Journal ?a0 ?i0 ?l0 ?c0 ?k0 ?a1 ?i1 ?l1 ?c1 ?k1 ?a2 ?i2 ?l2 ?c2 ?k2 ?a3 ?i3 ?l3 ?c3 ?k3 ?a4 ?i4 ?l4 ?c4 ?k4 ?a5 ?i5 ?l5 ?c5 ?k5 ?a6 ?i6 ?l6 ?c6 ?k6 ?a7 ?i7 ?l7 ?c7 ?k7 ?a8 ?i8 ?l8 ?c8 ?k8 ?a9 ?l9 ?c9 ?k9 ?a10 ?l10 ?c10 ?k10 ?a11 ?l11 ?c11 ?k11 ?a12 ?l12 ?c12 ?k12 ?a13 ?l13 ?c13 ?k13 ?a14 ?l14 ?c14 ?k14 ?a15 ?l15 ?c15 ?k15 ?a16 ?l16 ?c16 ?k16 ?a17 ?l17 ?c17 ?k17 ?a18 ?l18 ?c18 ?k18 ?a19 ?l19 ?c19 ?k19 ?a20 ?l20 ?c20 ?k20 ?a21 ?l21 ?c21 ?k21 ?a22 ?l22 ?c22 ?k22 ?a23 ?l23 ?c23 ?k23 ?a24 ?l24 ?c24 ?k24 ?a25 ?l25 ?c25 ?k25 ?a26 ?l26 ?c26 ?k26 ?a27 ?l27 ?c27 ?k27 ?pg_Disk ?hd_Disk ?po_Disk ?sa_Disk ?mk_Disk ?kc_Disk ?na_Disk_cells ?na_Disk__octets ?na_Disk__events ?pg_Journal ?hd_Journal ?po_Journal ?sa_Journal ?mk_Journal ?kc_Journal ?na_Journal_disk ?na_Journal__side ?na_Journal__records ?na_Journal__end ?z_abs ?z_all ?z_bool ?z_enumerate ?z_int ?z_isinstance ?z_len ?z_list ?z_max ?z_range ?z_sum ?z_tuple ?g_MOST_CELLS ?g_OCTETS ?g_HEAD ?g_MARK
    (case aC_Disk => k_is); (case aC_Journal => k_is); (case a0 => k_is); (case i0 => k_is); (case l0 => k_is); (case c0 => k_is); (case k0 => k_is); (case a1 => k_is); (case i1 => k_is); (case l1 => k_is); (case c1 => k_is); (case k1 => k_is); (case a2 => k_is); (case i2 => k_is); (case l2 => k_is); (case c2 => k_is); (case k2 => k_is); (case a3 => k_is); (case i3 => k_is); (case l3 => k_is); (case c3 => k_is); (case k3 => k_is); (case a4 => k_is); (case i4 => k_is); (case l4 => k_is); (case c4 => k_is); (case k4 => k_is); (case a5 => k_is); (case i5 => k_is); (case l5 => k_is); (case c5 => k_is); (case k5 => k_is); (case a6 => k_is); (case i6 => k_is); (case l6 => k_is); (case c6 => k_is); (case k6 => k_is); (case a7 => k_is); (case i7 => k_is); (case l7 => k_is); (case c7 => k_is); (case k7 => k_is); (case a8 => k_is); (case i8 => k_is); (case l8 => k_is); (case c8 => k_is); (case k8 => k_is); (case a9 => k_is); (case l9 => k_is); (case c9 => k_is); (case k9 => k_is); (case a10 => k_is); (case l10 => k_is); (case c10 => k_is); (case k10 => k_is); (case a11 => k_is); (case l11 => k_is); (case c11 => k_is); (case k11 => k_is); (case a12 => k_is); (case l12 => k_is); (case c12 => k_is); (case k12 => k_is); (case a13 => k_is); (case l13 => k_is); (case c13 => k_is); (case k13 => k_is); (case a14 => k_is); (case l14 => k_is); (case c14 => k_is); (case k14 => k_is); (case a15 => k_is); (case l15 => k_is); (case c15 => k_is); (case k15 => k_is); (case a16 => k_is); (case l16 => k_is); (case c16 => k_is); (case k16 => k_is); (case a17 => k_is); (case l17 => k_is); (case c17 => k_is); (case k17 => k_is); (case a18 => k_is); (case l18 => k_is); (case c18 => k_is); (case k18 => k_is); (case a19 => k_is); (case l19 => k_is); (case c19 => k_is); (case k19 => k_is); (case a20 => k_is); (case l20 => k_is); (case c20 => k_is); (case k20 => k_is); (case a21 => k_is); (case l21 => k_is); (case c21 => k_is); (case k21 => k_is); (case a22 => k_is); (case l22 => k_is); (case c22 => k_is); (case k22 => k_is); (case a23 => k_is); (case l23 => k_is); (case c23 => k_is); (case k23 => k_is); (case a24 => k_is); (case l24 => k_is); (case c24 => k_is); (case k24 => k_is); (case a25 => k_is); (case l25 => k_is); (case c25 => k_is); (case k25 => k_is); (case a26 => k_is); (case l26 => k_is); (case c26 => k_is); (case k26 => k_is); (case a27 => k_is); (case l27 => k_is); (case c27 => k_is); (case k27 => k_is); (case pg_Disk => k_is); (case hd_Disk => k_is); (case po_Disk => k_is); (case sa_Disk => k_is); (case mk_Disk => k_is); (case kc_Disk => k_is); (case na_Disk_cells => k_is); (case na_Disk__octets => k_is); (case na_Disk__events => k_is); (case pg_Journal => k_is); (case hd_Journal => k_is); (case po_Journal => k_is); (case sa_Journal => k_is); (case mk_Journal => k_is); (case kc_Journal => k_is); (case na_Journal_disk => k_is); (case na_Journal__side => k_is); (case na_Journal__records => k_is); (case na_Journal__end => k_is); (case z_abs => k_is); (case z_all => k_is); (case z_bool => k_is); (case z_enumerate => k_is); (case z_int => k_is); (case z_isinstance => k_is); (case z_len => k_is); (case z_list => k_is); (case z_max => k_is); (case z_range => k_is); (case z_sum => k_is); (case z_tuple => k_is); (case g_MOST_CELLS => k_is); (case g_OCTETS => k_is); (case g_HEAD => k_is); (case g_MARK => k_is)
