import PyProof.Rows.All
import Wide.All
import OpenK.AllK
import Wide.FinOn
import HandS.ForMost
import HandS.Codes
import HandS.IsInst
import HandS.Exc
import HandS.Style
import HandS.TupAny
import HandS.TupMul
import HandS.NoneIn
import HandS.Conv
import HandS.Zip
import KE.GoesMore
import KE.Datum
import HandS.Walk
import KE.DatumOrd
import HandS.Steps
import HandS.ExcInit
import HandS.ExcField
import HandS.ExcIs
import HandS.ExcOwn
import HandS.TryOnly
import KE.KExcSuper
import KE.KSuper
import PySem.Challenge.RW_neverregret_k85_whole_least_kinds_of_gre
set_option Elab.async false
set_option linter.all false
set_option maxRecDepth 100000
namespace KP
open PySem PySem.Spec PyProof.Rows L2
section
variable {X : Cx} {pos : Pos}
theorem pe_never {e : Expr} : PE X e (fun _ _ _ => False) := ⟨fun _ _ _ _ _ _ h => h.elim⟩
/-- o.f as a target -/
def gFld (K : PySem.W.Frag) (to : TE) (f : Str) : TG := fun v σ H Q => to σ H fun x H1 => ∃ a C dx fs, x = .ref a ∧ H1 a = some (.ins C dx fs) ∧ Cls K C ∧ NoAttr K C f ∧ fs.length < 1000 ∧ Q σ (upd H1 a (.ins C dx (putF f v fs)))
theorem pg_fld {o : Expr} {to : TE} {f : Str} (ho : PE X o to) : PG X (.Attribute o f pos) (gFld X.K to f) := by
  refine ⟨fun pins s σ H v u Q I r h => ?_⟩
  rw [PySem.assign_Attribute]
  refine wpAny_bind (wpAny_holding (thn (ho.run pins s σ H _ I h) fun ov s1 ⟨x, H1, I1, r1, a, C, dx, fs, ex, ea, c, n, l, q⟩ => ?_))
  subst ex
  obtain rfl : ov = Value.ref a := r1
  refine wpAny_bind (wpAny_standAt (wpAny_bind (wpAny_holding (setattr_ok I1 ea c n l r fun s3 I3 => ?_))))
  exact wpAny_release ⟨σ, _, I3, q⟩
end
end KP
namespace PySem
open Sem (wp)
open AutoSeq1 (wpAny_loadPart')
theorem meets_enumerate_newT1 (l : Addr) (items : Array Value) (n : Nat) (dct : Option Addr) (sl : Array (Option Value)) :
    Meets (Builtin.«enumerate.__new__» ⟨[.type "enumerate", .ref l], []⟩) (fun _ R s => s.heap.get? l = some { cls := .type "tuple", dict := dct, data := .seq items n, slots := sl } ∧
      R (.ok (.ret (.ref (s.heap.push { cls := .type "tuple_iterator", data := .fields #[.ref l, .int 0 0] }).objs.size)))
        { s with heap := (s.heap.push { cls := .type "tuple_iterator", data := .fields #[.ref l, .int 0 0] }).push { cls := .type "enumerate", data := .fields #[.none, .bool false, .ref s.heap.objs.size, rawInt 0, .none, .none] } }) :=
  .of_wp fun prog w A R s h => by
    obtain ⟨hp, g, d, tk, os⟩ := s; obtain ⟨hl, h⟩ := h
    have hsub := sub_enumerate
    have hL : Heap.IsTuple (Shared.heap ⟨hp, g, d, tk, os⟩) l items := ⟨_, hl, rfl, n, rfl⟩
    wp_walk using wpAny_loadPart' hl
    refine wpAny_stack_any fun st => wpAny_pure ?_
    split
    · rename_i c _ _ _ _ _
      cases (c == Value.type "enumerate")
      · wp_walk using wpAny_loadPart' hl, wpAny_pyIter_tuple hL
        exact ⟨_, rfl, h⟩
      · wp_walk using wpAny_loadPart' hl, wpAny_pyIter_tuple hL
        exact ⟨_, rfl, h⟩
    · wp_walk using wpAny_loadPart' hl, wpAny_pyIter_tuple hL
      exact ⟨_, rfl, h⟩
section
variable {prog : Program} {w : World} {A : Around} {E : Value → Shared → Prop} {s : Shared}
theorem call_enumerate_tuple {l : Addr} {items : Array Value} {Q : Value → Shared → Prop} (hL : s.heap.IsTuple l items)
    (h : ∀ h', IsEnum h' (s.heap.objs.size + 1) s.heap.objs.size 0 .none → h'.IsTupleIter s.heap.objs.size l 0 → h'.objs.size = s.heap.objs.size + 2 →
      (∀ b o, s.heap.get? b = some o → h'.get? b = some o) → Q (.ref (s.heap.objs.size + 1)) { s with heap := h' }) :
    wpAny (model prog w) A (call (.type "enumerate") [.ref l]) Q E s := by
  obtain ⟨⟨c, dct, dt, sl⟩, hl, hc, n, hd⟩ := hL
  replace hc : c = .type "tuple" := hc
  replace hd : dt = .seq items n := hd
  subst hc hd
  refine callType_new F.called_enumerate (by decide) (F.typeCall_enumerate_1 _) (F.newCall_enumerate_1 _) (fun obj => F.args_object_init_2 obj _) F.entry_enumerate_new
    (meets_enumerate_newT1 l items n dct sl) ⟨hl, ?_⟩
  have hz : (s.heap.push { cls := .type "tuple_iterator", data := .fields #[.ref l, .int 0 0] }).objs.size = s.heap.objs.size + 1 := Heap.size_push ..
  show _ ∧ _
  rw [hz]
  have he : IsEnum ((s.heap.push { cls := .type "tuple_iterator", data := .fields #[.ref l, .int 0 0] }).push
      { cls := .type "enumerate", data := .fields #[.none, .bool false, .ref s.heap.objs.size, rawInt 0, .none, .none] }) (s.heap.objs.size + 1) s.heap.objs.size 0 .none := by
    have := Heap.get?_push_size (s.heap.push { cls := .type "tuple_iterator", data := .fields #[.ref l, .int 0 0] })
      (o := { cls := .type "enumerate", data := .fields #[.none, .bool false, .ref s.heap.objs.size, rawInt 0, .none, .none] }) rfl
    rw [hz] at this; exact this
  refine ⟨⟨_, he, rfl⟩, h _ he ⟨_, Heap.get?_push_of_some _ (Heap.get?_push_size _ rfl), rfl, rfl⟩ (by rw [Heap.size_push, hz]) fun b o x => Heap.get?_push_of_some _ (Heap.get?_push_of_some _ x)⟩
end
end PySem
namespace KP
open PySem PySem.Spec PyProof.Rows L2
/-- the tuple at a, the items in new pairs with their places -/
def IteT (K : PySem.W.Frag) (a : Addr) : It :=
  ⟨fun i H => ∃ (xs : List V) (x : V), SqT K H a xs ∧ xs[i]? = some x, fun i H v H' => ∃ T x, v = .ref T ∧ H T = none ∧ H' = upd H T (.tup [.int (i : Nat), x]) ∧ ∀ xs, SqT K H a xs → xs[i]? = some x, fun i H => ∃ xs : List V, SqT K H a xs ∧ xs.length = i⟩
theorem turn_enumT {P : Program} {w : World} {K : PySem.W.Frag} {elts : List Expr} {kk : Nat} {tpos : Pos} (a e it : Addr) :
    Turn P w K (.Tuple elts kk tpos) (IteT K a) [e, it] e (fun i h => (∃ old, IsEnum h e it ((i : Nat) : Int) old) ∧ h.IsTupleIter it a i ∧ e ≠ it ∧ a ≠ it ∧ a ≠ e) where
  mem := by simp
  obj := fun i h st b hb => by
    obtain ⟨⟨old, he⟩, ⟨o, ho, hc, hd⟩, _⟩ := st
    have e' : b = e ∨ b = it := by simpa using hb
    rcases e' with z | z
    · rw [z]; exact ⟨_, he, fun v q => nomatch q⟩
    · rw [z]; exact ⟨o, ho, fun v q => by rw [hd] at q; cases q⟩
  keep := fun i h h' st k => let ⟨⟨old, he⟩, hi, hne⟩ := st; ⟨⟨old, k e (by simp) _ he⟩, hi.at fun o q => k it (by simp) o q, hne⟩
  item := by
    intro X hP hw hK hc i pins s σ H E I hf st hg
    subst hP hw hK
    obtain ⟨⟨old, he⟩, hit, hne, hai, hae⟩ := st
    obtain ⟨xs, x, hq, hx⟩ := hg
    obtain ⟨its, rv, p, hz⟩ := I.tuple hq
    obtain ⟨u, hu, ru⟩ := rv.get hx
    have hel : e < s.heap.objs.size := Heap.lt_size he
    have hil : it < s.heap.objs.size := by obtain ⟨_, q, _⟩ := hit; exact Heap.lt_size q
    have hlt : i < its.toArray.size := by
      have := (List.getElem?_eq_some_iff.mp hu).1
      simpa using this
    have hh : X.A.in1.handled = none := I.ok.hd hc
    refine wpAny_pyNext_enum_itemD (Draws.tuple hh it a hai its.toArray) he ⟨hit, p⟩ hlt hne (by simp [hne, Ne.symm hae]) fun y h' tk hy ho hst hT hsz hk => ?_
    have ey : y = u := by
      have : its.toArray[i]? = some u := by simpa using hu
      rw [this] at hy
      exact (Option.some.inj hy).symm
    subst ey
    refine ⟨_, rfl, wpAny_letOwnedTupleGo_enum (s := { s with heap := h', toks := tk + 1 }) ho fun h'' he' sb => ?_⟩
    have hT2 : h''.get? s.heap.objs.size = some { cls := .type "tuple", data := .seq #[.int i tk, y] } := (sb.2 _ (Nat.ne_of_gt hel)).trans hT
    have new : ObjOk X.prog X.w (upd H s.heap.objs.size (.tup [.int (i : Nat), x])) h'' s.heap.objs.size (.tup [.int (i : Nat), x]) :=
      ⟨by show 2 ≤ sizeLine; decide, [.int i tk, y], .cons ⟨_, rfl⟩ (.cons ru .nil), ⟨_, hT2, rfl, _, rfl⟩⟩
    have I1 : Inv X pins σ (upd H s.heap.objs.size (.tup [.int (i : Nat), x])) { s with heap := h'', toks := tk + 1 } :=
      I.turnedNew (ch := [e, it]) (fun b ob hb q => (sb.2 b (fun z => hb (by simp [z]))).trans (hk b ob (fun z => hb (by simp [z])) (fun z => hb (by simp [z])) q)) hf (Nat.le_refl _) new
    refine ⟨.ref s.heap.objs.size, _, I1, rfl, ⟨_, x, rfl, I.hok.fresh (Nat.le_refl _), rfl, fun ys hy => by rw [I.tuple_inj hy hq]; exact hx⟩, ⟨⟨y, ?_⟩, hst.1.at fun o q => (sb.2 it (Ne.symm hne)).trans q, hne, hai, hae⟩, fun b hb => ?_⟩
    · have e1 : ((i + 1 : Nat) : Int) = (i : Int) + 1 := by omega
      rw [e1]; exact he'
    · have hb' : b < s.heap.objs.size := by
        have e' : b = e ∨ b = it := by simpa using hb
        rcases e' with z | z
        · rw [z]; exact hel
        · rw [z]; exact hil
      rw [upd_ne (Nat.ne_of_lt hb')]
      exact (hf b hb).1
  done := by
    intro X hP hw hK hc i pins s σ H E I hf st hg
    subst hP hw hK
    obtain ⟨⟨old, he⟩, hit, hne, hai, hae⟩ := st
    obtain ⟨xs, hq, hx⟩ := hg
    obtain ⟨its, rv, p, hz⟩ := I.tuple hq
    obtain ⟨f0, f1, f2, f3, f4, f5⟩ := hf it (by simp)
    have hl := rv.length
    have hh : X.A.in1.handled = none := I.ok.hd hc
    have hn : i = its.toArray.size := by simp; omega
    subst hn
    exact wpAny_pyNext_enum_endD (Draws.tuple hh it a hai its.toArray) he ⟨hit, p⟩ fun h' eb => ⟨rfl, I.turned (t' := s.toks) (fun b o hb q => eb b o hb q) f0 f1 f3 f4 f5⟩
  self := fun A i s Q E st h => let ⟨⟨_, he⟩, _⟩ := st; wpAny_pyIter_enum he h
def iEnumT (K : PySem.W.Frag) (ta : TA) : TI := fun σ H R => ta σ H fun vs H1 => ∃ a xs, vs = [.ref a] ∧ SqT K H1 a xs ∧ R (IteT K a) H1
theorem pi_enumT {X : Cx} {e : Expr} {ta : TA} {p pos tpos : Pos} {elts : List Expr} {kk : Nat} (hg : Gl X "enumerate") (hm : X.mg "enumerate" = none) (ha : PA X [e] ta) (hs : starEach [e] X.env = [(false, eval e X.env)] := by rfl) :
    PI X (.Tuple elts kk tpos) (.Call (.Name "enumerate" p) [e] [] pos) (iEnumT X.K ta) := by
  refine ⟨fun pins s σ H R I h => ?_⟩
  refine Call_ (ld_blt I hg hm boot_enumerate (PyProof.Rows.callWith_type1 (thn (ha.run pos pins s σ H _ I h) fun us s1 ⟨vs, H1, I1, r1, q1⟩ => ?_) hs rfl))
  obtain ⟨a, xs, ex, hq, q⟩ := q1
  subst ex
  cases r1 with
  | cons r rr =>
    cases rr
    cases r
    obtain ⟨its, rv, p', hz⟩ := I1.tuple hq
    refine call_enumerate_tuple p' fun h' he hit hsz hk => wpAny_pyIter_enum he ?_
    have I2 : Inv X pins σ H1 { s1 with heap := h' } := I1.kept (t' := s1.toks) hk
    have hal : a < s1.heap.objs.size := by obtain ⟨_, q, _⟩ := p'; exact Heap.lt_size q
    refine ⟨s1.heap.objs.size + 1, [s1.heap.objs.size + 1, s1.heap.objs.size], _, _, H1, rfl, I2, turn_enumT a (s1.heap.objs.size + 1) s1.heap.objs.size, ⟨⟨.none, he⟩, hit, Nat.succ_ne_self _, Nat.ne_of_lt hal, Nat.ne_of_lt (Nat.lt_succ_of_lt hal)⟩, fun b hb => ?_, q⟩
    have e' : b = s1.heap.objs.size + 1 ∨ b = s1.heap.objs.size := by simpa using hb
    have hle : s1.heap.objs.size ≤ b := by
      rcases e' with z | z
      · rw [z]; exact Nat.le_add_right _ _
      · rw [z]; exact Nat.le_refl _
    exact I1.fpOk hle (I1.hok.fresh hle)
/-- a for over it that leaves the tuple as it is -/
theorem for_enumT {K : PySem.W.Frag} {a : Addr} {xs : List V} {g : TG} {tb : TS} {D : Ends} {σ : L2.St} {H : Hp} (Pv : Nat → L2.St → Hp → Prop) (h0 : Pv 0 σ H) (hl : ∀ i σ H, i ≤ xs.length → Pv i σ H → SqT K H a xs)
    (hs : ∀ i x σ H T, xs[i]? = some x → Pv i σ H → H T = none → g (.ref T) σ (upd H T (.tup [.int (i : Nat), x])) fun σ2 H2 => tb { D with nx := Pv (i + 1), ct := Pv (i + 1), bk := D.nx } σ2 H2) (hd : ∀ σ H, Pv xs.length σ H → D.nx σ H) :
    ∃ W : Nat → Nat → L2.St → Hp → Prop, (∃ m, W 0 m σ H) ∧ ∀ i m σ H, W i m σ H →
      ((IteT K a).stop i H ∧ D.nx σ H) ∨ ((IteT K a).go i H ∧ ∃ N : L2.St → Hp → Prop, (∀ σ' H', N σ' H' → ∃ m', m' < m ∧ W (i + 1) m' σ' H') ∧ ∀ x H', (IteT K a).yld i H x H' → g x σ H' fun σ2 H2 => tb { D with nx := N, ct := N, bk := D.nx } σ2 H2) := by
  refine ⟨fun i m σ H => m = xs.length - i ∧ i ≤ xs.length ∧ Pv i σ H, ⟨xs.length, by simp, Nat.zero_le _, h0⟩, ?_⟩
  rintro i m σ H ⟨rfl, hi, p⟩
  have q := hl i σ H hi p
  by_cases hlt : i < xs.length
  · refine .inr ⟨⟨xs, xs[i], q, by simp [hlt]⟩, Pv (i + 1), fun σ' H' p' => ⟨xs.length - (i + 1), by omega, rfl, hlt, p'⟩, fun x H' y => ?_⟩
    obtain ⟨T, z, e, hT, e2, y⟩ := y
    subst e e2
    exact hs i z σ H T (y xs q) p hT
  · have e : i = xs.length := by omega
    subst e
    exact .inl ⟨⟨xs, q, rfl⟩, hd σ H p⟩
/-- tuple * int, long -/
def rRepW (K : PySem.W.Frag) : R2 := fun x y H Q => ∃ l k xs, x = .ref l ∧ y = .int k ∧ SqT K H l xs ∧ xs ≠ [] ∧ 2 ≤ k ∧ k ≤ 100000 ∧ xs.length ≤ 10 ∧ ∀ p, H p = none → Q (.ref p) (upd H p (.tup (List.replicate k.toNat xs).flatten))
set_option maxHeartbeats 4000000 in
theorem op_repW {X : Cx} : OpR X (binaryOp .Mult) (rRepW X.K) := by
  intro pins s σ H x y v u Q I rx ry h
  obtain ⟨l, k, xs, rfl, rfl, hT, hne, h1, h2, hz, q⟩ := h
  cases rx
  obtain ⟨t, rfl⟩ := ry
  obtain ⟨its, r, ⟨⟨cls, dd, data, sl⟩, ho, hc, n, hd⟩, hs⟩ := I.tuple hT
  simp only at hc hd
  subst hc hd
  have hle : its.length = xs.length := r.length.symm
  have hn : its ≠ [] := fun e => hne (by
    rw [e] at hle
    exact List.eq_nil_of_length_eq_zero hle.symm)
  have hi : its.toArray.isEmpty = false := by
    cases its with
    | nil => exact absurd rfl hn
    | cons a b => rfl
  have hsz0 : its.toArray.size = xs.length := by rw [List.size_toArray, hle]
  have hm : ((its.toArray.size : Nat) : Int) * k ≤ 1000000 := by
    rw [hsz0]
    have a1 : ((xs.length : Nat) : Int) * k ≤ 10 * k := Int.mul_le_mul_of_nonneg_right (by omega) (by omega)
    omega
  have flen : (List.replicate k.toNat its).flatten.length ≤ sizeLine := by
    rw [PyProof.Rows.lm_len_rep_flat, hle, sizeLine_eq]
    have a1 : k.toNat * xs.length ≤ 100000 * 10 := Nat.mul_le_mul (by omega) hz
    omega
  have c0 : (decide (k < -(2 ^ 63)) || decide (k ≥ 2 ^ 63)) = false := by
    rw [decide_eq_false (by omega), decide_eq_false (by omega)] <;> rfl
  have c1 : (its.toArray.isEmpty || k == 1) = false := by
    rw [hi, Bool.false_or]
    exact beq_eq_false_iff_ne.mpr (by omega)
  have c2 : (decide (k ≤ 0) || its.toArray.isEmpty) = false := by
    rw [hi, Bool.or_false]
    exact decide_eq_false (by omega)
  have c4 : Builtin.Tuple.tupleTooMany (((its.toArray.size : Nat) : Int) * k) = false := by
    unfold Builtin.Tuple.tupleTooMany
    rw [sizeLine_eq]
    exact decide_eq_false (by omega)
  refine wpAny_binaryOp_repeat_ref (T := "tuple") (U := "int") (by decide) ⟨_, ho, rfl⟩ (fun s' => typeIs_int s' k t) noFill_tuple_mul F.fills_int_mul F.slot_int_rmul repeat_tuple F.slot_int_index.lookup
    (call_meets F.slot_int_rmul (typeIs_int s k t) F.entry_int_rmul (F.args_int_rmul_2 _ _) (int_rmul_tuple k t l its.toArray n dd sl)
      ⟨ho, rfl, ⟨_, ho, rfl⟩, call_meets F.slot_tuple_mul ⟨_, ho, rfl⟩ F.entry_tuple_mul (F.args_tuple_mul_2 _ _) (tuple_mulW l its.toArray n dd sl k t c0 c1 c2 (by omega) c4 (by rw [size_rep, List.size_toArray]; exact flen)) ⟨ho, ?_⟩⟩)
  rw [size_rep]
  refine ⟨.ref s.heap.objs.size, _, I.laid (t' := s.toks) (o := .tup (List.replicate k.toNat xs).flatten) (fun b ob q => Heap.get?_push_of_some _ q) (Nat.le_refl _) ?_, rfl, q _ (I.hok.fresh (Nat.le_refl _))⟩
  exact ⟨by rw [PyProof.Rows.lm_len_rep_flat, sizeLine_eq]; have a1 : k.toNat * xs.length ≤ 100000 * 10 := Nat.mul_le_mul (by omega) hz; omega, _, r.rep k.toNat, IsTup.new _ _⟩
end KP
namespace KP
open PySem PySem.Spec PyProof.Rows L2
abbrev S2 := L2.St
section
variable {K : PySem.W.Frag} {σ : S2} {H : Hp} {Q : VK} {v x y : V} {ta tb te tv to ti : TE} {t u : TA} {i j : Nat} {a p l C dx : Addr} {fs : List (Str × V)} {f m : Str} {xs vs : List V} {nx : S2 → Hp → Prop} {rt : VK} {bk ct : S2 → Hp → Prop}
theorem w_var (h : σ[i]? = some (some v)) (q : Q v H) : tVar i σ H Q := ⟨v, h, q⟩
theorem w_c (q : Q v H) : tC v σ H Q := q
theorem w_op {r : R2} (q : ta σ H fun x H1 => tb σ H1 fun y H2 => r x y H2 Q) : tOp r ta tb σ H Q := q
theorem w_un {r : V → Hp → VK → Prop} (q : ta σ H fun x H1 => r x H1 Q) : tUn r ta σ H Q := q
def seqV (mk : List V → HO) (xs : List V) (H : Hp) (Q : VK) : Prop := xs.length ≤ sizeLine ∧ ∀ p, H p = none → Q (.ref p) (upd H p (mk xs))
theorem w_tup (q : t σ H fun xs H1 => seqV .tup xs H1 Q) : tTup t σ H Q := q
theorem w_lst (q : t σ H fun xs H1 => seqV .lst xs H1 Q) : tLst t σ H Q := q
theorem w_seqV {mk : List V → HO} (h : xs.length ≤ sizeLine) (q : ∀ p, H p = none → Q (.ref p) (upd H p (mk xs))) : seqV mk xs H Q := ⟨h, q⟩
def fldV (K : PySem.W.Frag) (f : Str) (x : V) (H : Hp) (Q : VK) : Prop := ∃ a C dx fs v, x = .ref a ∧ H a = some (.ins C dx fs) ∧ Cls K C ∧ NoAttr K C f ∧ fs.lookup f = some v ∧ Q v H
theorem w_fld (q : ta σ H fun x H1 => fldV K f x H1 Q) : tFld K ta f σ H Q := q
theorem w_fldV (h : H a = some (.ins C dx fs)) (c : Cls K C) (n : NoAttr K C f) (e : fs.lookup f = some v) (q : Q v H) : fldV K f (.ref a) H Q := ⟨a, C, dx, fs, v, rfl, h, c, n, e, q⟩
def fldS (K : PySem.W.Frag) (f : Str) (y x : V) (H : Hp) (q : Hp → Prop) : Prop := ∃ a C dx fs, x = .ref a ∧ H a = some (.ins C dx fs) ∧ Cls K C ∧ NoAttr K C f ∧ fs.length < 1000 ∧ q (upd H a (.ins C dx (putF f y fs)))
theorem w_fldS {q : Hp → Prop} (h : H a = some (.ins C dx fs)) (c : Cls K C) (n : NoAttr K C f) (e : fs.length < 1000) (k : q (upd H a (.ins C dx (putF f y fs)))) : fldS K f y (.ref a) H q := ⟨a, C, dx, fs, rfl, h, c, n, e, k⟩
theorem w_sfld (q : tv σ H fun y H1 => ta σ H1 fun x H2 => fldS K f y x H2 fun H3 => nx σ H3) : sFld K ta tv f ⟨nx, rt, bk, ct⟩ σ H := q
theorem w_call {sp : Sp} {E : XK} (q : t σ H fun vs H1 => sp vs H1 Q E) : tCall sp [] E t σ H Q := by
  have e : (fun vs H1 => sp vs H1 Q E) = fun vs H1 => sp (vs ++ []) H1 Q E := by funext vs H1; rw [List.append_nil]
  rw [e] at q
  exact q
def methV (m : Str) (C : Addr) (x : V) (H : Hp) (k : Prop) : Prop := ∃ a dx fs, x = .ref a ∧ H a = some (.ins C dx fs) ∧ fs.lookup m = none ∧ k
theorem w_meth {sp : Sp} {E : XK} (q : ta σ H fun x H1 => methV m C x H1 (t σ H1 fun vs H2 => sp (x :: vs) H2 Q E)) : tMeth C m sp [] E ta t σ H Q := by
  have e : (fun x H1 => methV m C x H1 (t σ H1 fun vs H2 => sp (x :: vs) H2 Q E)) = fun x H1 => ∃ a dx fs, x = .ref a ∧ H1 a = some (.ins C dx fs) ∧ fs.lookup m = none ∧ t σ H1 fun vs H2 => sp (x :: (vs ++ [])) H2 Q E := by
    funext x H1
    unfold methV
    simp only [List.append_nil]
  rw [e] at q
  exact q
theorem w_methV {k : Prop} (h : H a = some (.ins C dx fs)) (e : fs.lookup m = none) (q : k) : methV m C (.ref a) H k := ⟨a, dx, fs, rfl, h, e, q⟩
theorem w_make {sp : Sp} {E : XK} (q : t σ H fun vs H1 => ∀ x dx, H1 x = none → H1 dx = none → dx ≠ x → sp (.ref x :: vs) (upd (upd H1 dx (.own x)) x (.ins C dx [])) (fun v H2 => v = .non ∧ Q (.ref x) H2) E) : tMake C sp [] E t σ H Q := by
  have e : (fun (vs : List V) (H1 : Hp) => ∀ x dx, H1 x = none → H1 dx = none → dx ≠ x → sp (.ref x :: vs) (upd (upd H1 dx (.own x)) x (.ins C dx [])) (fun v H2 => v = .non ∧ Q (.ref x) H2) E) = fun vs H1 => ∀ x dx, H1 x = none → H1 dx = none → dx ≠ x → sp (.ref x :: (vs ++ [])) (upd (upd H1 dx (.own x)) x (.ins C dx [])) (fun v H2 => v = .non ∧ Q (.ref x) H2) E := by
    funext vs H1
    simp only [List.append_nil]
  rw [e] at q
  exact q
theorem w_cb {r : List V → Hp → VK → Prop} (q : t σ H fun vs H1 => r vs H1 Q) : tCB r t σ H Q := q
theorem w_nil {Q : List V → Hp → Prop} (q : Q [] H) : tNil σ H Q := q
theorem w_cons {Q : List V → Hp → Prop} (q : ta σ H fun x H1 => t σ H1 fun xs H2 => Q (x :: xs) H2) : tCons ta t σ H Q := q
def blV (x : V) (H : Hp) (Q : Bool → Hp → Prop) : Prop := ∃ c, x = .bl c ∧ Q c H
theorem w_blV {c : Bool} {Q : Bool → Hp → Prop} (q : Q c H) : blV (.bl c) H Q := ⟨c, rfl, q⟩
theorem w_tB {Q : Bool → Hp → Prop} (q : te σ H fun x H1 => blV x H1 Q) : tB te σ H Q := q
theorem w_tTest {Q : Bool → Hp → Prop} (q : te σ H fun x H1 => blV x H1 Q) : tTest te σ H Q := q
theorem w_tAnd {t u : TT} {Q : Bool → Hp → Prop} (q : t σ H fun c H1 => if c = true then u σ H1 Q else Q false H1) : tAnd t u σ H Q := q
theorem w_tOr {t u : TT} {Q : Bool → Hp → Prop} (q : t σ H fun c H1 => if c = true then Q true H1 else u σ H1 Q) : tOr t u σ H Q := q
theorem w_tNot {t : TT} {Q : Bool → Hp → Prop} (q : t σ H fun c H1 => Q (!c) H1) : tNot t σ H Q := q
theorem w_tAndV (q : ta σ H fun x H1 => blV x H1 fun c H2 => if c = true then tb σ H2 Q else Q (.bl false) H2) : tAndV ta tb σ H Q := q
theorem w_tOrV (q : ta σ H fun x H1 => blV x H1 fun c H2 => if c = true then Q (.bl true) H2 else tb σ H2 Q) : tOrV ta tb σ H Q := q
theorem w_tNotV (q : ta σ H fun x H1 => blV x H1 fun c H2 => Q (.bl (!c)) H2) : tNotV ta σ H Q := q
theorem w_tIf {t : TT} (q : t σ H fun c H1 => if c = true then ta σ H1 Q else tb σ H1 Q) : tIf t ta tb σ H Q := q
def chV (x y : V) (r r' : R2) (tc : TE) (σ : S2) (H : Hp) (Q : VK) : Prop := r x y H fun z H3 => blV z H3 fun k H4 => if k = true then tc σ H4 fun w' H5 => r' y w' H5 Q else Q (.bl false) H4
theorem w_tChain {r r' : R2} {tc : TE} (q : ta σ H fun x H1 => tb σ H1 fun y H2 => r x y H2 fun z H3 => blV z H3 fun k H4 => if k = true then tc σ H4 fun w' H5 => r' y w' H5 Q else Q (.bl false) H4) : tChain r r' ta tb tc σ H Q := q
theorem w_isN (q : ta σ H fun x H1 => Q (.bl (decide (x = .non))) H1) : tIsN ta σ H Q := q
theorem w_notN (q : ta σ H fun x H1 => Q (.bl (!decide (x = .non))) H1) : tNotN ta σ H Q := q
theorem w_noPart {Q : Option Int → Hp → Prop} (q : Q none H) : tNoPart σ H Q := q
def parV (x : V) (H : Hp) (Q : Option Int → Hp → Prop) : Prop := ∃ i, x = .int i ∧ Q (some i) H
theorem w_part {Q : Option Int → Hp → Prop} (q : te σ H fun x H1 => parV x H1 Q) : tPart te σ H Q := q
theorem w_parV {n : Int} {Q : Option Int → Hp → Prop} (q : Q (some n) H) : parV (.int n) H Q := ⟨n, rfl, q⟩
theorem w_sl {r : V → Option Int → Option Int → Hp → VK → Prop} {tl th : TO} (q : te σ H fun x H1 => tl σ H1 fun l H2 => th σ H2 fun u H3 => r x l u H3 Q) : tSl r te tl th σ H Q := q
def bmV (K : PySem.W.Frag) (T : String) (x : V) (H : Hp) (k : Prop) : Prop := tyV K T x H ∧ k
theorem w_bm0 {T : String} {r : V → List V → Hp → VK → Prop} (q : to σ H fun x H1 => bmV K T x H1 (r x [] H1 Q)) : tBM0 K T r to σ H Q := q
theorem w_bm {T : String} {r : V → List V → Hp → VK → Prop} (q : to σ H fun x H1 => bmV K T x H1 (t σ H1 fun xs H2 => r x xs H2 Q)) : tBM K T r to t σ H Q := q
theorem w_bmL {k : Prop} (h : H l = some (.lst xs)) (q : k) : bmV K "list" (.ref l) H k := ⟨.inl ⟨rfl, _, SqL.of h⟩, q⟩
def revV (K : PySem.W.Frag) (x : V) (H : Hp) (Q : VK) : Prop := ∃ a xs, x = .ref a ∧ SqL K H a xs ∧ ∀ p, H p = none → Q (.ref p) (upd H p (.lst xs.reverse))
theorem w_rev (q : te σ H fun x H1 => revV K x H1 Q) : tRevL K te σ H Q := q
theorem w_revV (h : SqL K H a xs) (q : ∀ p, H p = none → Q (.ref p) (upd H p (.lst xs.reverse))) : revV K (.ref a) H Q := ⟨a, xs, rfl, h, q⟩
/-! values -/
theorem w_rI0 {g : Int → Int → V} {i j : Int} (q : Q (g i j) H) : rI0 g (.int i) (.int j) H Q := ⟨i, j, rfl, rfl, q⟩
theorem w_rI {c : Int → Int → Prop} {g : Int → Int → V} {i j : Int} (h : c i j) (q : Q (g i j) H) : rI c g (.int i) (.int j) H Q := ⟨i, j, rfl, rfl, h, q⟩
theorem w_rU {g : Int → V} {i : Int} (q : Q (g i) H) : rU g (.int i) H Q := ⟨i, rfl, q⟩
theorem w_rEqI {i j : Int} (q : Q (.bl (decide (i = j))) H) : rEq (.int i) (.int j) H Q := ⟨rfl, by
  have e : decide (V.int i = V.int j) = decide (i = j) := by simp
  rw [e]; exact q⟩
theorem w_rNeI {i j : Int} (q : Q (.bl (!decide (i = j))) H) : rNe (.int i) (.int j) H Q := ⟨rfl, by
  have e : decide (V.int i = V.int j) = decide (i = j) := by simp
  rw [e]; exact q⟩
theorem w_rEq (h : scal x y = true) (q : Q (.bl (decide (x = y))) H) : rEq x y H Q := ⟨h, q⟩
theorem w_rNe (h : scal x y = true) (q : Q (.bl (!decide (x = y))) H) : rNe x y H Q := ⟨h, q⟩
theorem w_ixL {n : Int} (h : SqL K H p xs) (e : atI xs n = some v) (q : Q v H) : rIxL K (.ref p) (.int n) H Q := ⟨p, xs, n, v, rfl, rfl, h, e, q⟩
theorem w_ixT {n : Int} (h : SqT K H p xs) (e : atI xs n = some v) (q : Q v H) : rIxT K (.ref p) (.int n) H Q := ⟨p, xs, n, v, rfl, rfl, h, e, q⟩
theorem w_slL {lo hi : Option Int} (h : SqL K H a xs) (q : ∀ p, H p = none → Q (.ref p) (upd H p (.lst (cutV xs lo hi)))) : rSlL K (.ref a) lo hi H Q := ⟨a, xs, rfl, h, q⟩
theorem w_append (h : H l = some (.lst xs)) (e : xs.length < sizeLine) (q : Q .non (upd H l (.lst (xs ++ [y])))) : rAppend (.ref l) [y] H Q := ⟨l, xs, y, rfl, rfl, h, e, q⟩
theorem w_pop (h : H l = some (.lst xs)) (e : xs[xs.length - 1]? = some y) (q : Q y (upd H l (.lst xs.dropLast))) : rPop (.ref l) [] H Q := ⟨l, xs, y, rfl, rfl, h, e, q⟩
theorem w_setL {k : Int} {q : Hp → Prop} (h : H p = some (.lst xs)) (e : ixN xs.length k = some j) (k' : q (upd H p (.lst (xs.set j v)))) : rSetL (.ref p) (.int k) v H q := ⟨p, xs, k, j, rfl, rfl, h, e, k'⟩
/-! targets, statements -/
theorem w_gName {Q : S2 → Hp → Prop} (q : Q (σ.set i (some v)) H) : gName i v σ H Q := q
theorem w_gTup {t : TGs} {n : Nat} {Q : S2 → Hp → Prop} (h : SqT K H a xs) (e : xs.length = n) (q : t xs σ H Q) : gTup K n t (.ref a) σ H Q := ⟨a, xs, rfl, h, e, q⟩
theorem w_gUnl {t : TGs} {n : Nat} {Q : S2 → Hp → Prop} (h : SqL K H a xs) (e : xs.length = n) (q : t xs σ H Q) : gUnl K n t (.ref a) σ H Q := ⟨a, xs, rfl, h, e, q⟩
theorem w_gCons {t : TG} {u : TGs} {Q : S2 → Hp → Prop} (q : t v σ H fun σ' H' => u vs σ' H' Q) : gCons t u (v :: vs) σ H Q := ⟨v, vs, rfl, q⟩
theorem w_gNil {Q : S2 → Hp → Prop} (q : Q σ H) : gNil [] σ H Q := ⟨rfl, q⟩
theorem w_gFld {Q : S2 → Hp → Prop} (q : to σ H fun x H1 => fldS K f v x H1 fun H2 => Q σ H2) : gFld K to f v σ H Q := q
theorem w_gSub {t : TSet} {Q : S2 → Hp → Prop} (q : to σ H fun o H1 => ti σ H1 fun i H2 => t o i v H2 fun H3 => Q σ H3) : gSub to ti t v σ H Q := q
theorem w_seq {t u : TS} (q : t ⟨u ⟨nx, rt, bk, ct⟩, rt, bk, ct⟩ σ H) : tSeq t u ⟨nx, rt, bk, ct⟩ σ H := q
theorem w_next (q : nx σ H) : tNext ⟨nx, rt, bk, ct⟩ σ H := q
theorem w_break (q : bk σ H) : tBreak ⟨nx, rt, bk, ct⟩ σ H := q
theorem w_cont (q : ct σ H) : tCont ⟨nx, rt, bk, ct⟩ σ H := q
theorem w_asg {g : TG} (q : te σ H fun x H1 => g x σ H1 nx) : tAsg te g ⟨nx, rt, bk, ct⟩ σ H := q
theorem w_drop (q : te σ H fun _ H1 => nx σ H1) : tDrop te ⟨nx, rt, bk, ct⟩ σ H := q
theorem w_ret (q : te σ H rt) : tRet te ⟨nx, rt, bk, ct⟩ σ H := q
theorem w_retN (q : rt .non H) : tRetN ⟨nx, rt, bk, ct⟩ σ H := q
theorem w_ifS {c : TT} {t u : TS} (q : c σ H fun b H1 => if b = true then t ⟨nx, rt, bk, ct⟩ σ H1 else u ⟨nx, rt, bk, ct⟩ σ H1) : tIfS c t u ⟨nx, rt, bk, ct⟩ σ H := q
def par2 (i j : Nat) (vs : List V) (σ : S2) (H : Hp) (q : S2 → Hp → Prop) : Prop := ∃ v w, vs = [v, w] ∧ q ((σ.set i (some v)).set j (some w)) H
theorem w_par (q : t σ H fun vs H1 => par2 i j vs σ H1 nx) : tPar i j t ⟨nx, rt, bk, ct⟩ σ H := q
theorem w_par2 {q : S2 → Hp → Prop} (h : q ((σ.set i (some x)).set j (some y)) H) : par2 i j [x, y] σ H q := ⟨x, y, rfl, h⟩
theorem w_cut {t u : TS} (M : S2 → Hp → Prop) (h : t ⟨M, rt, bk, ct⟩ σ H) (k : ∀ σ' H', M σ' H' → u ⟨nx, rt, bk, ct⟩ σ' H') : C8.tCut t u ⟨nx, rt, bk, ct⟩ σ H := ⟨M, h, k⟩
/-! tests -/
theorem w_itT {A B : Prop} (h : A) : if true = true then A else B := iteT h
theorem w_itF {A B : Prop} (h : B) : if false = true then A else B := iteF h
theorem w_itD {P : Prop} [Decidable P] {A B : Prop} (h1 : P → A) (h2 : ¬ P → B) : if decide P = true then A else B := by
  by_cases h : P
  · rw [if_pos (decide_eq_true h)]; exact h1 h
  · rw [if_neg (by rw [decide_eq_false h]; decide)]; exact h2 h
theorem w_itN {P : Prop} [Decidable P] {A B : Prop} (h1 : ¬ P → A) (h2 : P → B) : if (!decide P) = true then A else B := by
  by_cases h : P
  · rw [if_neg (by rw [decide_eq_true h]; decide)]; exact h2 h
  · rw [if_pos (by rw [decide_eq_false h]; rfl)]; exact h1 h
theorem w_itB {c : Bool} {A B : Prop} (h1 : c = true → A) (h2 : c = false → B) : if c = true then A else B := by
  cases c with
  | true => rw [if_pos rfl]; exact h1 rfl
  | false => rw [if_neg Bool.false_ne_true]; exact h2 rfl
theorem w_nonI {n : Int} {k : V → Hp → Prop} (h : k (.bl false) H) : k (.bl (decide (V.int n = .non))) H := h
theorem w_nonR {k : V → Hp → Prop} (h : k (.bl false) H) : k (.bl (decide (V.ref a = .non))) H := h
theorem w_nonN {k : V → Hp → Prop} (h : k (.bl true) H) : k (.bl (decide (V.non = .non))) H := h
end
end KP
namespace KP
open PySem PySem.Spec PyProof.Rows L2
theorem w_ifRefNon {a : Addr} {A B : Prop} (h : B) : if decide (V.ref a = V.non) = true then A else B := iteF h
theorem w_ifIntNon {a : Int} {A B : Prop} (h : B) : if decide (V.int a = V.non) = true then A else B := iteF h
theorem w_ifNonNon {A B : Prop} (h : A) : if decide (V.non = V.non) = true then A else B := iteT h
theorem w_ifRefNot {a : Addr} {A B : Prop} (h : A) : if (!decide (V.ref a = V.non)) = true then A else B := iteT h
theorem w_ifIntNot {a : Int} {A B : Prop} (h : A) : if (!decide (V.int a = V.non)) = true then A else B := iteT h
theorem w_ifNonNot {A B : Prop} (h : B) : if (!decide (V.non = V.non)) = true then A else B := iteF h
end KP
namespace KP
open PySem PySem.Spec PyProof.Rows L2
/-- all but M stands; tuples and known things stand anyway; nothing goes -/
structure Kp (M : List Addr) (H H' : Hp) : Prop where
  keep : ∀ x o, H x = some o → x ∉ M → H' x = some o
  tup : ∀ x xs, H x = some (.tup xs) → H' x = some (.tup xs)
  frz : ∀ x o u, H x = some (.frz o u) → H' x = some (.frz o u)
  dom : ∀ x o, H x = some o → ∃ o', H' x = some o'
section
variable {K : PySem.W.Frag} {M N : List Addr} {H H1 H2 H' : Hp} {p a b l x : Addr} {o u : HO} {xs ys : List V}
theorem Kp.refl : Kp M H H := ⟨fun _ _ h _ => h, fun _ _ h => h, fun _ _ _ h => h, fun _ _ h => ⟨_, h⟩⟩
theorem Kp.trans (e : Kp M H H1) (f : Kp M H1 H2) : Kp M H H2 := ⟨fun x o h n => f.keep x o (e.keep x o h n) n, fun x xs h => f.tup x xs (e.tup x xs h), fun x o u h => f.frz x o u (e.frz x o u h), fun x o h => by
  obtain ⟨o', h'⟩ := e.dom x o h
  exact f.dom x o' h'⟩
theorem Kp.mono (e : Kp M H H1) (h : ∀ x ∈ M, x ∈ N) : Kp N H H1 := ⟨fun x o hx n => e.keep x o hx fun m => n (h x m), e.tup, e.frz, e.dom⟩
theorem Kp.wide (e : Kp [] H H1) : Kp N H H1 := e.mono fun _ h => by cases h
theorem Kp.new (h : H p = none) : Kp M H (upd H p o) := ⟨fun x u hx _ => by rw [upd_ne (ne_of_none hx h)]; exact hx, fun x xs hx => by rw [upd_ne (ne_of_none hx h)]; exact hx, fun x o u hx => by rw [upd_ne (ne_of_none hx h)]; exact hx, fun x u hx => ⟨u, by rw [upd_ne (ne_of_none hx h)]; exact hx⟩⟩
def isMut : HO → Bool
  | .tup _ => false
  | .frz _ _ => false
  | _ => true
theorem Kp.set (h : H p = some u) (m : isMut u = true) (hp : p ∈ M) : Kp M H (upd H p o) := ⟨fun x w hx n => by
    have ne : x ≠ p := fun e => n (e ▸ hp)
    rw [upd_ne ne]; exact hx, fun x xs hx => by
    have ne : x ≠ p := fun e => by
      subst e; rw [h] at hx; cases hx; cases m
    rw [upd_ne ne]; exact hx, fun x o u hx => by
    have ne : x ≠ p := fun e => by
      subst e; rw [h] at hx; cases hx; cases m
    rw [upd_ne ne]; exact hx, fun x w hx => by
    by_cases e : x = p
    · subst e; exact ⟨_, upd_same⟩
    · exact ⟨w, by rw [upd_ne e]; exact hx⟩⟩
theorem Kp.of_same (h : Same H H1) : Kp M H H1 := ⟨fun x o hx _ => h x o hx, fun x xs hx => h x _ hx, fun x o u hx => h x _ hx, fun x o hx => ⟨o, h x o hx⟩⟩
theorem Kp.same (e : Kp [] H H1) : Same H H1 := fun x o h => e.keep x o h (by simp)
theorem Kp.free (e : Kp M H H1) (h : H1 x = none) : H x = none := by
  cases q : H x with
  | none => rfl
  | some o =>
    obtain ⟨o', h'⟩ := e.dom x o q
    rw [h] at h'; cases h'
theorem Kp.sqT (e : Kp M H H1) (h : SqT K H a xs) : SqT K H1 a xs := by
  rcases h with (h | ⟨o, h⟩) | h
  · exact .inl (.inl (e.tup _ _ h))
  · exact .inl (.inr ⟨o, e.frz _ _ _ h⟩)
  · exact .inr h
theorem Kp.sqL (e : Kp M H H1) (h : SqL K H a xs) (n : a ∉ M) : SqL K H1 a xs := by
  rcases h with (h | ⟨o, h⟩) | h
  · exact .inl (.inl (e.keep _ _ h n))
  · exact .inl (.inr ⟨o, e.frz _ _ _ h⟩)
  · exact .inr h
/-- what was made since, and the list at p (made since) changed -/
theorem Kp.mut (e : Kp M H H1) (h : H p = none) : Kp M H (upd H1 p o) := ⟨fun x u hx n => by
    rw [upd_ne (ne_of_none hx h)]; exact e.keep x u hx n, fun x xs hx => by rw [upd_ne (ne_of_none hx h)]; exact e.tup x xs hx, fun x o u hx => by rw [upd_ne (ne_of_none hx h)]; exact e.frz x o u hx, fun x u hx => by
    obtain ⟨o', h'⟩ := e.dom x u hx
    exact ⟨o', by rw [upd_ne (ne_of_none hx h)]; exact h'⟩⟩
end
/-! ### the source of draws -/
structure RngS (H : Hp) (a b : Addr) (cs : List Int) (s : Int) : Prop where
  ha : H a = some (.lst [.ref b, .int s])
  hb : H b = some (.lst (cs.map V.int))
  ne : a ≠ b
  len : cs.length ≤ 1000
theorem RngS.new {H : Hp} {a b p : Addr} {cs : List Int} {s : Int} {o : HO} (R : RngS H a b cs s) (hp : H p = none) : RngS (upd H p o) a b cs s :=
  ⟨by rw [upd_ne (ne_of_none R.ha hp)]; exact R.ha, by rw [upd_ne (ne_of_none R.hb hp)]; exact R.hb, R.ne, R.len⟩
theorem RngS.put {H : Hp} {a b : Addr} {cs ds : List Int} {s : Int} (R : RngS H a b cs s) (h : ds.length ≤ 1000) : RngS (upd H b (.lst (ds.map V.int))) a b ds s :=
  ⟨by rw [upd_ne R.ne]; exact R.ha, upd_same, R.ne, h⟩
theorem RngS.stir {H : Hp} {a b : Addr} {cs : List Int} {s z : Int} (R : RngS H a b cs s) : RngS (upd H a (.lst [.ref b, .int z])) a b cs z :=
  ⟨upd_same, by rw [upd_ne R.ne.symm]; exact R.hb, R.ne, R.len⟩
def Rng (H : Hp) (a b : Addr) : Prop := ∃ cs s, RngS H a b cs s
theorem Rng.ne {H : Hp} {a b : Addr} (h : Rng H a b) : a ≠ b := by obtain ⟨_, _, h⟩ := h; exact h.ne
theorem Rng.da {H : Hp} {a b : Addr} (h : Rng H a b) : ∃ o, H a = some o := by obtain ⟨_, _, h⟩ := h; exact ⟨_, h.ha⟩
theorem Rng.db {H : Hp} {a b : Addr} (h : Rng H a b) : ∃ o, H b = some o := by obtain ⟨_, _, h⟩ := h; exact ⟨_, h.hb⟩
theorem Rng.kp {H H' : Hp} {a b : Addr} {M : List Addr} (h : Rng H a b) (e : Kp M H H') (na : a ∉ M) (nb : b ∉ M) : Rng H' a b := by
  obtain ⟨cs, s, h⟩ := h
  exact ⟨cs, s, e.keep _ _ h.ha na, e.keep _ _ h.hb nb, h.ne, h.len⟩
theorem Rng.new {H : Hp} {a b p : Addr} {o : HO} (h : Rng H a b) (hp : H p = none) : Rng (upd H p o) a b := h.kp (M := []) (Kp.new hp) (by simp) (by simp)
theorem ne_free {H : Hp} {a p : Addr} (h : ∃ o, H a = some o) (hp : H p = none) : p ≠ a := by
  obtain ⟨o, h⟩ := h
  exact (ne_of_none h hp).symm
def spDraw : Sp := fun vs H Q _ => ∃ (a b : Addr) (n : Int), vs = [.ref a, .int n] ∧ Rng H a b ∧ 0 < n ∧ n < 1073741824 ∧ ∀ (z : Int) (H' : Hp), 0 ≤ z → z < n → Kp [a, b] H H' → Rng H' a b → Q (.int z) H'
def spPick (K : PySem.W.Frag) : Sp := fun vs H Q _ => ∃ (a b p : Addr) (xs : List V), vs = [.ref a, .ref p] ∧ Rng H a b ∧ SqL K H p xs ∧ p ≠ a ∧ p ≠ b ∧ xs ≠ [] ∧ xs.length ≤ 1000000 ∧
  ∀ (i : Nat) (v : V) (H' : Hp), xs[i]? = some v → Kp [a, b] H H' → Rng H' a b → Q v H'
def spHeap (K : PySem.W.Frag) : Sp := fun vs H Q _ => ∃ (p : Addr) (ns : List Int), vs = [.ref p] ∧ SqL K H p (ns.map V.int) ∧ ns.length ≤ 63 ∧
  ∀ (a b : Addr) (H' : Hp), Kp [] H H' → Rng H' a b → H a = none → H b = none → Q (.ref a) H'
section
variable {P : Program} {w : World} {K : PySem.W.Frag} {mg : Str → Option Value} {base : Heap}
theorem mkCal {x : Str} {st : Stmt} {N ps : List Str} {sp : Sp} {k : Nat} (D : ∃ f fd, C8.Def K mg x st f fd ∧ Binds K fd ps []) (S : FnScope N ps (C8.fnScope st)) (len : ∀ vs H Q E, sp vs H Q E → vs.length = ps.length)
    (hbody : ∀ (f : Addr) (cdv : Value) (A : Around) (outer : List Env) (s : Shared) (H : Hp) (vs : List V) (Q : VK) (E : XK), Room k (A.deeper (envOfC x (C8.fnScope st) s.heap.objs.size f cdv)) → sp vs H Q E →
      ∃ t, PSs (cxOf C8.CX0 P w K mg base N x (C8.fnScope st) f cdv A outer s H E).nox (C8.fnBody st) t ∧ t { nx := fun _ H' => Q .non H', rt := Q } (start N vs) H) : C8.Cal P w K mg base (k + 1) x sp [] := by
  obtain ⟨f, fd, F, b⟩ := D
  exact C8.cal0 F b .nil S len fun cdv A outer s H vs Q E hr h => hbody f cdv A outer s H vs Q E hr h
theorem mkMet {C : Addr} {m qual : Str} {st : Stmt} {N ps : List Str} {sp : Sp} {k : Nat} (c : Cls K C) (D : ∃ f fd, Meth K C m f ∧ C8.Fun K m qual st f fd ∧ Binds K fd ps []) (S : FnScope N ps (C8.fnScope st)) (len : ∀ vs H Q E, sp vs H Q E → vs.length = ps.length)
    (hbody : ∀ (f : Addr) (cdv : Value) (A : Around) (outer : List Env) (s : Shared) (H : Hp) (vs : List V) (Q : VK) (E : XK), Room k (A.deeper (envOfC qual (C8.fnScope st) s.heap.objs.size f cdv)) → sp vs H Q E →
      ∃ t, PSs (cxOf C8.CX0 P w K mg base N qual (C8.fnScope st) f cdv A outer s H E).nox (C8.fnBody st) t ∧ t { nx := fun _ H' => Q .non H', rt := Q } (start N vs) H) : C8.Met P w K mg base (k + 1) C m sp [] := by
  obtain ⟨f, fd, me, F, b⟩ := D
  exact C8.met0 c me F b S len fun cdv A outer s H vs Q E hr h => hbody f cdv A outer s H vs Q E hr h
theorem mkMak {C : Addr} {x qual : Str} {st : Stmt} {N ps : List Str} {sp : Sp} {k : Nat} (D : ∃ f fd, Mk K C f ∧ mg x = some (.ref C) ∧ C8.Fun K "__init__" qual st f fd ∧ Binds K fd ps []) (S : FnScope N ps (C8.fnScope st)) (len : ∀ vs H Q E, sp vs H Q E → vs.length = ps.length)
    (hbody : ∀ (f : Addr) (cdv : Value) (A : Around) (outer : List Env) (s : Shared) (H : Hp) (vs : List V) (Q : VK) (E : XK), Room k (A.deeper (envOfC qual (C8.fnScope st) s.heap.objs.size f cdv)) → sp vs H Q E →
      ∃ t, PSs (cxOf C8.CX0 P w K mg base N qual (C8.fnScope st) f cdv A outer s H E).nox (C8.fnBody st) t ∧ t { nx := fun _ H' => Q .non H', rt := Q } (start N vs) H) : C8.Mak P w K mg base (k + 1) x C sp [] := by
  obtain ⟨f, fd, M, hm, F, b⟩ := D
  exact C8.mak0 M hm F b .nil S len fun cdv A outer s H vs Q E hr h => hbody f cdv A outer s H vs Q E hr h
end
end KP
namespace KP
open PySem PySem.Spec PyProof.Rows L2
open PySem.W (Datum Tup Holds HoldAll)
theorem bt_int : bootBuiltins "int" = some (.type "int") := by decide +kernel
theorem bt_tuple : bootBuiltins "tuple" = some (.type "tuple") := by decide +kernel
theorem bt_list : bootBuiltins "list" = some (.type "list") := by decide +kernel
theorem bt_bool : bootBuiltins "bool" = some (.type "bool") := by decide +kernel
theorem bt_str : bootBuiltins "str" = some (.type "str") := by decide +kernel
theorem bt_isinstance : bootBuiltins "isinstance" = some (.builtin "isinstance") := by decide +kernel
theorem bt_abs : bootBuiltins "abs" = some (.builtin "abs") := by decide +kernel
theorem bt_len : bootBuiltins "len" = some (.builtin "len") := by decide +kernel
theorem bt_max : bootBuiltins "max" = some (.builtin "max") := by decide +kernel
theorem bt_min : bootBuiltins "min" = some (.builtin "min") := by decide +kernel
theorem bt_sum : bootBuiltins "sum" = some (.builtin "sum") := by decide +kernel
theorem bt_all : bootBuiltins "all" = some (.builtin "all") := by decide +kernel
theorem bt_any : bootBuiltins "any" = some (.builtin "any") := by decide +kernel
theorem bt_sorted : bootBuiltins "sorted" = some (.builtin "sorted") := by decide +kernel
theorem bt_set : bootBuiltins "set" = some (.type "set") := by decide +kernel
theorem bt_dict : bootBuiltins "dict" = some (.type "dict") := by decide +kernel
instance : Datum (Option Int) where
  toD o := match o with
    | none => .none
    | some i => .int i
  plain o := by cases o <;> rfl
  eqv a b := by
    cases a <;> cases b
    · simp only [PyData.eqv]; rfl
    · simp only [PyData.eqv]; rfl
    · simp only [PyData.eqv]; rfl
    · simp only [PyData.eqv]; rename_i x y; rw [PySem.W.beq_decide]; exact decide_eq_decide.mpr ⟨fun e => by rw [e], fun e => Option.some.inj e⟩
  depth := 0
  depth_le o := by cases o <;> exact Nat.le_refl _
mutual
def lf : PyData → Bool
  | .list _ => false
  | .tuple ds => lfAll ds
  | _ => true
def lfAll : List PyData → Bool
  | [] => true
  | d :: ds => lf d && lfAll ds
end
class TupD (α : Type) [DecidableEq α] [Datum α] : Prop where
  free : ∀ a : α, lf (Datum.toD a) = true
instance : TupD Int := ⟨fun _ => by simp [Datum.toD, lf]⟩
instance : TupD Bool := ⟨fun _ => by simp [Datum.toD, lf]⟩
instance : TupD Str := ⟨fun _ => by simp [Datum.toD, lf]⟩
instance : TupD (Option Int) := ⟨fun o => by cases o <;> simp [Datum.toD, lf]⟩
section
variable {α β : Type} [DecidableEq α] [Datum α] [DecidableEq β] [Datum β]
theorem lfAll_map [TupD α] : ∀ xs : List α, lfAll (xs.map Datum.toD) = true
  | [] => by simp [lfAll]
  | x :: xs => by rw [List.map_cons, lfAll, TupD.free x, lfAll_map xs]; rfl
instance [TupD α] : TupD (Tup α) := ⟨fun t => by show lf (.tuple (t.items.map Datum.toD)) = true; rw [lf]; exact lfAll_map t.items⟩
instance [TupD α] [TupD β] : TupD (α × β) := ⟨fun p => by show lf (.tuple [Datum.toD p.1, Datum.toD p.2]) = true; simp [lf, lfAll, TupD.free]⟩
end
def Is {α : Type} [DecidableEq α] [Datum α] (K : PySem.W.Frag) (H : Hp) (v : V) (x : α) : Prop := Dp K H v (Datum.toD x)
def IsAll {α : Type} [DecidableEq α] [Datum α] (K : PySem.W.Frag) (H : Hp) (vs : List V) (xs : List α) : Prop := DpAll K H vs (xs.map Datum.toD)
section
variable {K : PySem.W.Frag} {H H' : Hp} {M : List Addr}
mutual
theorem Dp.kp (e : Kp M H H') : ∀ (d : PyData) (v : V), lf d = true → Dp K H v d → Dp K H' v d
  | .none, _, _, h => by cases h; exact .non
  | .bool b, _, _, h => by cases h; exact .bl b
  | .int i, _, _, h => by cases h; exact .int i
  | .str x, _, _, h => by cases h; exact .str x
  | .list ds, _, q, h => by simp [lf] at q
  | .tuple ds, _, q, h => by
    cases h with
    | tup hs ha => exact .tup (e.sqT hs) (Dp.kpAll e ds _ (by simpa [lf] using q) ha)
  | .dict _, _, _, h => by cases h
theorem Dp.kpAll (e : Kp M H H') : ∀ (ds : List PyData) (vs : List V), lfAll ds = true → DpAll K H vs ds → DpAll K H' vs ds
  | [], _, _, h => by cases h; exact .nil
  | d :: ds, _, q, h => by
    have q' : lf d = true ∧ lfAll ds = true := by simpa [lfAll] using q
    cases h with
    | cons h1 h2 => exact .cons (Dp.kp e d _ q'.1 h1) (Dp.kpAll e ds _ q'.2 h2)
end
theorem Same.sqT' {a : Addr} {xs : List V} (e : Same H H') (h : SqT K H a xs) : SqT K H' a xs := by
  rcases h with (h | ⟨o, h⟩) | h
  · exact .inl (.inl (e _ _ h))
  · exact .inl (.inr ⟨o, e _ _ h⟩)
  · exact .inr h
mutual
theorem Dp.same (e : Same H H') : ∀ (d : PyData) (v : V), Dp K H v d → Dp K H' v d
  | .none, _, h => by cases h; exact .non
  | .bool b, _, h => by cases h; exact .bl b
  | .int i, _, h => by cases h; exact .int i
  | .str x, _, h => by cases h; exact .str x
  | .list ds, _, h => by
    cases h with
    | lst hs ha => exact .lst (e.seq hs) (Dp.sameAll e ds _ ha)
  | .tuple ds, _, h => by
    cases h with
    | tup hs ha => exact .tup (Same.sqT' e hs) (Dp.sameAll e ds _ ha)
  | .dict _, _, h => by cases h
theorem Dp.sameAll (e : Same H H') : ∀ (ds : List PyData) (vs : List V), DpAll K H vs ds → DpAll K H' vs ds
  | [], _, h => by cases h; exact .nil
  | d :: ds, _, h => by
    cases h with
    | cons h1 h2 => exact .cons (Dp.same e d _ h1) (Dp.sameAll e ds _ h2)
end
variable {α β : Type} [DecidableEq α] [Datum α] [DecidableEq β] [Datum β]
theorem Is.kp [TupD α] {v : V} {x : α} (e : Kp M H H') (h : Is K H v x) : Is K H' v x := Dp.kp e _ _ (TupD.free x) h
theorem IsAll.kp [TupD α] {vs : List V} {xs : List α} (e : Kp M H H') (h : IsAll K H vs xs) : IsAll K H' vs xs := Dp.kpAll e _ _ (lfAll_map xs) h
theorem Is.same {v : V} {x : α} (e : Same H H') (h : Is K H v x) : Is K H' v x := Dp.same e _ _ h
theorem IsAll.same {vs : List V} {xs : List α} (e : Same H H') (h : IsAll K H vs xs) : IsAll K H' vs xs := Dp.sameAll e _ _ h
theorem is_int (i : Int) : Is K H (.int i) i := Dp.int i
theorem is_bl (b : Bool) : Is K H (.bl b) b := Dp.bl b
theorem is_str (x : Str) : Is K H (.str x) x := Dp.str x
theorem is_none : Is K H .non (none : Option Int) := Dp.non
theorem is_some (i : Int) : Is K H (.int i) (some i) := Dp.int i
theorem IsAll.nil : IsAll K H [] ([] : List α) := DpAll.nil
theorem IsAll.cons {v : V} {vs : List V} {x : α} {xs : List α} (h : Is K H v x) (t : IsAll K H vs xs) : IsAll K H (v :: vs) (x :: xs) := DpAll.cons h t
theorem IsAll.uncons {v : V} {vs : List V} {x : α} {xs : List α} (h : IsAll K H (v :: vs) (x :: xs)) : Is K H v x ∧ IsAll K H vs xs := by
  cases h with
  | cons a b => exact ⟨a, b⟩
theorem IsAll.length : ∀ {vs : List V} {xs : List α}, IsAll K H vs xs → vs.length = xs.length
  | [], [], _ => rfl
  | [], _ :: _, h => by cases h
  | _ :: _, [], h => by cases h
  | v :: vs, x :: xs, h => by rw [List.length_cons, List.length_cons, h.uncons.2.length]
theorem IsAll.append : ∀ {vs : List V} {xs : List α} {ws : List V} {ys : List α}, IsAll K H vs xs → IsAll K H ws ys → IsAll K H (vs ++ ws) (xs ++ ys)
  | [], [], _, _, _, h => h
  | [], _ :: _, _, _, h, _ => by cases h
  | _ :: _, [], _, _, h, _ => by cases h
  | v :: vs, x :: xs, _, _, h, g => .cons h.uncons.1 (h.uncons.2.append g)
theorem IsAll.get : ∀ {vs : List V} {xs : List α}, IsAll K H vs xs → ∀ {i : Nat} {v : V}, vs[i]? = some v → ∃ x, xs[i]? = some x ∧ Is K H v x
  | [], _, _, _, _, e => by simp at e
  | _ :: _, [], h, _, _, _ => by cases h
  | v :: vs, x :: xs, h, 0, w, e => by simp at e; subst e; exact ⟨x, rfl, h.uncons.1⟩
  | v :: vs, x :: xs, h, i + 1, w, e => by
    obtain ⟨y, h1, h2⟩ := h.uncons.2.get (i := i) (v := w) (by simpa using e)
    exact ⟨y, by simpa using h1, h2⟩
theorem IsAll.get' : ∀ {vs : List V} {xs : List α}, IsAll K H vs xs → ∀ {i : Nat} {x : α}, xs[i]? = some x → ∃ v, vs[i]? = some v ∧ Is K H v x
  | _, [], _, _, _, e => by simp at e
  | [], _ :: _, h, _, _, _ => by cases h
  | v :: vs, x :: xs, h, 0, w, e => by simp at e; subst e; exact ⟨v, rfl, h.uncons.1⟩
  | v :: vs, x :: xs, h, i + 1, w, e => by
    obtain ⟨y, h1, h2⟩ := h.uncons.2.get' (i := i) (x := w) (by simpa using e)
    exact ⟨y, by simpa using h1, h2⟩
theorem IsAll.take : ∀ {vs : List V} {xs : List α} (n : Nat), IsAll K H vs xs → IsAll K H (vs.take n) (xs.take n)
  | _, _, 0, _ => by simp; exact .nil
  | [], [], n + 1, h => h
  | [], _ :: _, _, h => by cases h
  | _ :: _, [], _, h => by cases h
  | v :: vs, x :: xs, n + 1, h => .cons h.uncons.1 (h.uncons.2.take n)
theorem IsAll.drop : ∀ {vs : List V} {xs : List α} (n : Nat), IsAll K H vs xs → IsAll K H (vs.drop n) (xs.drop n)
  | _, _, 0, h => h
  | [], [], n + 1, h => h
  | [], _ :: _, _, h => by cases h
  | _ :: _, [], _, h => by cases h
  | v :: vs, x :: xs, n + 1, h => h.uncons.2.drop n
theorem IsAll.set : ∀ {vs : List V} {xs : List α} {v : V} {x : α} (i : Nat), IsAll K H vs xs → Is K H v x → IsAll K H (vs.set i v) (xs.set i x)
  | [], [], _, _, _, h, _ => h
  | [], _ :: _, _, _, _, h, _ => by cases h
  | _ :: _, [], _, _, _, h, _ => by cases h
  | v :: vs, x :: xs, _, _, 0, h, g => .cons g h.uncons.2
  | v :: vs, x :: xs, _, _, i + 1, h, g => .cons h.uncons.1 (h.uncons.2.set i g)
theorem isAll_ints : ∀ ns : List Int, IsAll K H (ns.map V.int) ns
  | [] => .nil
  | n :: r => .cons (is_int n) (isAll_ints r)
theorem isAll_strs : ∀ ns : List Str, IsAll K H (ns.map V.str) ns
  | [] => .nil
  | n :: r => .cons (is_str n) (isAll_strs r)
theorem isAll_bls : ∀ ns : List Bool, IsAll K H (ns.map V.bl) ns
  | [] => .nil
  | n :: r => .cons (is_bl n) (isAll_bls r)
theorem IsAll.ints : ∀ {vs : List V} {ns : List Int}, IsAll K H vs ns → vs = ns.map V.int
  | [], [], _ => rfl
  | [], _ :: _, h => by cases h
  | _ :: _, [], h => by cases h
  | v :: vs, x :: xs, h => by
    have a : Dp K H v (.int x) := h.uncons.1
    have e : v = .int x := by cases a; rfl
    rw [e, h.uncons.2.ints]; rfl
theorem IsAll.bls : ∀ {vs : List V} {ns : List Bool}, IsAll K H vs ns → vs = ns.map V.bl
  | [], [], _ => rfl
  | [], _ :: _, h => by cases h
  | _ :: _, [], h => by cases h
  | v :: vs, x :: xs, h => by
    have a : Dp K H v (.bool x) := h.uncons.1
    have e : v = .bl x := by cases a; rfl
    rw [e, h.uncons.2.bls]; rfl
theorem IsAll.strs : ∀ {vs : List V} {ns : List Str}, IsAll K H vs ns → vs = ns.map V.str
  | [], [], _ => rfl
  | [], _ :: _, h => by cases h
  | _ :: _, [], h => by cases h
  | v :: vs, x :: xs, h => by
    have a : Dp K H v (.str x) := h.uncons.1
    have e : v = .str x := by cases a; rfl
    rw [e, h.uncons.2.strs]; rfl
theorem is_list {a : Addr} {vs : List V} {xs : List α} (h : SqL K H a vs) (t : IsAll K H vs xs) : Is K H (.ref a) xs := Dp.lst h t
theorem is_tup {a : Addr} {vs : List V} {xs : List α} (h : SqT K H a vs) (t : IsAll K H vs xs) : Is K H (.ref a) (Tup.mk xs) := Dp.tup h t
theorem is_pair {a : Addr} {v w : V} {x : α} {y : β} (h : SqT K H a [v, w]) (g : Is K H v x) (t : Is K H w y) : Is K H (.ref a) (x, y) := Dp.tup h (.cons g (.cons t .nil))
theorem Is.int {v : V} {i : Int} (h : Is K H v i) : v = .int i := by
  have a : Dp K H v (.int i) := h
  cases a; rfl
theorem Is.bl {v : V} {i : Bool} (h : Is K H v i) : v = .bl i := by
  have a : Dp K H v (.bool i) := h
  cases a; rfl
theorem Is.str {v : V} {i : Str} (h : Is K H v i) : v = .str i := by
  have a : Dp K H v (.str i) := h
  cases a; rfl
theorem Is.tup {v : V} {t : Tup α} (h : Is K H v t) : ∃ a vs, v = .ref a ∧ SqT K H a vs ∧ IsAll K H vs t.items := by
  have a : Dp K H v (.tuple (t.items.map Datum.toD)) := h
  cases a with
  | tup h1 h2 => exact ⟨_, _, rfl, h1, h2⟩
theorem Is.tupm {v : V} {xs : List α} (h : Is K H v (Tup.mk xs)) : ∃ a vs, v = .ref a ∧ SqT K H a vs ∧ IsAll K H vs xs := h.tup
theorem Is.list {v : V} {t : List α} (h : Is K H v t) : ∃ a vs, v = .ref a ∧ SqL K H a vs ∧ IsAll K H vs t := by
  have a : Dp K H v (.list (t.map Datum.toD)) := h
  cases a with
  | lst h1 h2 => exact ⟨_, _, rfl, h1, h2⟩
theorem Is.pair {v : V} {t : α × β} (h : Is K H v t) : ∃ a u w, v = .ref a ∧ SqT K H a [u, w] ∧ Is K H u t.1 ∧ Is K H w t.2 := by
  have a : Dp K H v (.tuple [Datum.toD t.1, Datum.toD t.2]) := h
  cases a with
  | tup h1 h2 =>
    cases h2 with
    | cons a1 a2 =>
      cases a2 with
      | cons b1 b2 => cases b2; exact ⟨_, _, _, rfl, h1, a1, b1⟩
end
/-! ### ==, != of data -/
section
variable {X : Cx} {pins : List (Addr × Obj)} {σ : L2.St} {H : Hp} {s : Shared} {α : Type} [DecidableEq α] [Datum α]
theorem Is.holds (I : Inv X pins σ H s) {v : V} {u : Value} {x : α} (h : Is X.K H v x) (r : RelV v u) : Holds s.heap u x := Dp.reads I _ _ _ h r
theorem IsAll.holds (I : Inv X pins σ H s) {vs : List V} {us : List Value} {xs : List α} (h : IsAll X.K H vs xs) (r : Vals vs us) : HoldAll s.heap us xs := Dp.readsAll I _ _ _ h r
def rEqX (K : PySem.W.Frag) : R2 := fun x y H Q => ∃ (α : Type) (_ : DecidableEq α) (_ : Datum α) (a b : α), Is K H x a ∧ Is K H y b ∧ Datum.depth α ≤ 60 ∧ Q (.bl (decide (a = b))) H
def rNeX (K : PySem.W.Frag) : R2 := fun x y H Q => ∃ (α : Type) (_ : DecidableEq α) (_ : Datum α) (a b : α), Is K H x a ∧ Is K H y b ∧ Datum.depth α ≤ 60 ∧ Q (.bl (!decide (a = b))) H
theorem op_eqX (hu : X.A.units + 64 < cLine) : OpR X (compareOp .Eq) (rEqX X.K) := by
  intro pins s σ H x y v u Q I rx ry h
  obtain ⟨α, i1, i2, a, b, ha, hb, hd, q⟩ := h
  exact PySem.W.eq_datum (ha.holds I rx) (hb.holds I ry) (by omega) ⟨.bl _, H, I, rfl, q⟩
theorem op_neX (hu : X.A.units + 64 < cLine) : OpR X (compareOp .NotEq) (rNeX X.K) := by
  intro pins s σ H x y v u Q I rx ry h
  obtain ⟨α, i1, i2, a, b, ha, hb, hd, q⟩ := h
  refine PySem.W.ne_datum (ha.holds I rx) (hb.holds I ry) (by omega) ⟨.bl _, H, I, rfl, ?_⟩
  rw [decide_not]
  exact q
def rInX (K : PySem.W.Frag) (neg : Bool) : R2 := fun x y H Q => ∃ (α : Type) (_ : DecidableEq α) (_ : Datum α) (a : α) (b : List α) (p : Addr) (vs : List V), y = .ref p ∧ (SqL K H p vs ∨ SqT K H p vs) ∧ IsAll K H vs b ∧ Is K H x a ∧ Datum.depth α ≤ 60 ∧ Q (.bl (if neg then !decide (a ∈ b) else decide (a ∈ b))) H
theorem op_inX (hu : X.A.units + 64 < cLine) : OpR X (compareOp .In) (rInX X.K false) := by
  intro pins s σ H x y v u Q I rx ry h
  obtain ⟨α, i1, i2, a, b, p, vs, rfl, hs, hb, ha, hd, q⟩ := h
  cases ry
  rcases hs with hs | hs
  · obtain ⟨its, rv, ⟨o, n, ho, hc, _, hd'⟩, _⟩ := I.list hs
    exact PySem.W.in_list_datum ⟨o, ho, hc, n, hd'⟩ (by simpa using hb.holds I rv) (ha.holds I rx) (by omega) ⟨.bl _, H, I, rfl, q⟩
  · obtain ⟨its, rv, ⟨o, ho, hc, n, hd'⟩, _⟩ := I.tuple hs
    exact PySem.W.in_tuple_datum ⟨o, ho, hc, n, hd'⟩ (by simpa using hb.holds I rv) (ha.holds I rx) (by omega) ⟨.bl _, H, I, rfl, q⟩
theorem op_notInX (hu : X.A.units + 64 < cLine) : OpR X (compareOp .NotIn) (rInX X.K true) := by
  intro pins s σ H x y v u Q I rx ry h
  obtain ⟨α, i1, i2, a, b, p, vs, rfl, hs, hb, ha, hd, q⟩ := h
  have q' : Q (.bl (decide (a ∉ b))) H := by rw [decide_not]; exact q
  cases ry
  rcases hs with hs | hs
  · obtain ⟨its, rv, ⟨o, n, ho, hc, _, hd'⟩, _⟩ := I.list hs
    exact PySem.W.notIn_list_datum ⟨o, ho, hc, n, hd'⟩ (by simpa using hb.holds I rv) (ha.holds I rx) (by omega) ⟨.bl _, H, I, rfl, q'⟩
  · obtain ⟨its, rv, ⟨o, ho, hc, n, hd'⟩, _⟩ := I.tuple hs
    exact PySem.W.notIn_tuple_datum ⟨o, ho, hc, n, hd'⟩ (by simpa using hb.holds I rv) (ha.holds I rx) (by omega) ⟨.bl _, H, I, rfl, q'⟩
end
section
variable {K : PySem.W.Frag} {H : Hp} {Q : VK} {x y : V} {α : Type} [i1 : DecidableEq α] [i2 : Datum α] {a b : α}
theorem w_eqX (a b : α) (h : Is K H x a) (g : Is K H y b) (d : Datum.depth α ≤ 60) (q : Q (.bl (decide (a = b))) H) : rEqX K x y H Q := ⟨α, i1, i2, a, b, h, g, d, q⟩
theorem w_neX (a b : α) (h : Is K H x a) (g : Is K H y b) (d : Datum.depth α ≤ 60) (q : Q (.bl (!decide (a = b))) H) : rNeX K x y H Q := ⟨α, i1, i2, a, b, h, g, d, q⟩
/-- a list of ints against [] -/
theorem w_neNil {l p : Addr} {ns : List Int} (h : SqL K H l (ns.map V.int)) (g : H p = some (.lst [])) (q : Q (.bl (!decide (ns = []))) H) : rNeX K (.ref l) (.ref p) H Q :=
  w_neX ns [] (is_list h (isAll_ints ns)) (is_list (SqL.of g) .nil) (by decide) q
end
section
variable {N : List Str} {n : Str} {v : V} {vs : List V}
theorem st_cons : L2.start (n :: N) (v :: vs) = some v :: L2.start N vs := by
  unfold L2.start
  simp [Nat.succ_sub_succ]
theorem st_nilc : L2.start (n :: N) [] = none :: L2.start N [] := by
  unfold L2.start
  simp [List.replicate_succ]
theorem st_nil : L2.start [] [] = [] := rfl
end
end KP
namespace KP
open PySem PySem.Spec PyProof.Rows L2
open PySem.W (Datum Tup Holds HoldAll)
section
variable {K : PySem.W.Frag} {σ : S2} {H : Hp} {Q : VK} {a : Addr} {xs : List V} {g : TG} {tb : TS} {nx : S2 → Hp → Prop} {rt : VK} {bk ct : S2 → Hp → Prop}
theorem w_while {c : TT} (W : Nat → S2 → Hp → Prop) (m : Nat) (h0 : W m σ H) (hs : ∀ m σ H, W m σ H → c σ H fun b H1 => if b = true then tb ⟨fun σ' H' => ∃ m', m' < m ∧ W m' σ' H', rt, nx, fun σ' H' => ∃ m', m' < m ∧ W m' σ' H'⟩ σ H1 else nx σ H1)
    (mono : ∀ σ H Q Q', (∀ b H1, Q b H1 → Q' b H1) → c σ H Q → c σ H Q') : tWhile c tb ⟨nx, rt, bk, ct⟩ σ H := by
  refine ⟨W, ⟨m, h0⟩, fun m σ H w => ?_⟩
  refine mono σ H _ _ (fun b H1 h => ?_) (hs m σ H w)
  cases b with
  | true => rw [if_pos rfl] at h; rw [if_pos rfl]; exact ⟨_, fun σ' H' n => n, h⟩
  | false => rw [if_neg Bool.false_ne_true] at h; rw [if_neg Bool.false_ne_true]; exact h
/-- the test is read for any answer -/
theorem w_whileQ {c : TT} (W : Nat → S2 → Hp → Prop) (m : Nat) (h0 : W m σ H) (hs : ∀ m σ H (Q : Bool → Hp → Prop), W m σ H → (∀ H1, tb ⟨fun σ' H' => ∃ m', m' < m ∧ W m' σ' H', rt, nx, fun σ' H' => ∃ m', m' < m ∧ W m' σ' H'⟩ σ H1 → Q true H1) → (∀ H1, nx σ H1 → Q false H1) → c σ H Q) : tWhile c tb ⟨nx, rt, bk, ct⟩ σ H := by
  refine ⟨W, ⟨m, h0⟩, fun m σ H w => hs m σ H _ w (fun H1 h => ?_) (fun H1 h => ?_)⟩
  · rw [if_pos rfl]; exact ⟨_, fun σ' H' n => n, h⟩
  · rw [if_neg Bool.false_ne_true]; exact h
def lpL (K : PySem.W.Frag) (g : TG) (tb : TS) (D : Ends) (σ : S2) (x : V) (H : Hp) : Prop := ∃ a, x = .ref a ∧ (∃ xs, SqL K H a xs) ∧ ∃ W : Nat → Nat → S2 → Hp → Prop, (∃ m, W 0 m σ H) ∧ ∀ i m σ H, W i m σ H →
  ((Itl K a).stop i H ∧ D.nx σ H) ∨ ((Itl K a).go i H ∧ ∃ N : S2 → Hp → Prop, (∀ σ' H', N σ' H' → ∃ m', m' < m ∧ W (i + 1) m' σ' H') ∧ ∀ x H', (Itl K a).yld i H x H' → g x σ H' fun σ2 H2 => tb { D with nx := N, ct := N, bk := D.nx } σ2 H2)
theorem w_forL {tl : TE} {D : Ends} (q : tl σ H fun x H1 => lpL K g tb D σ x H1) : tFor (iList K tl) g tb D σ H := q
theorem w_lpL (h : SqL K H a xs) (Pv : Nat → S2 → Hp → Prop) (h0 : Pv 0 σ H) (hl : ∀ i σ H, i ≤ xs.length → Pv i σ H → SqL K H a xs)
    (hs : ∀ i x σ H, xs[i]? = some x → Pv i σ H → g x σ H fun σ2 H2 => tb ⟨Pv (i + 1), rt, nx, Pv (i + 1)⟩ σ2 H2) (hd : ∀ σ H, Pv xs.length σ H → nx σ H) : lpL K g tb ⟨nx, rt, bk, ct⟩ σ (.ref a) H :=
  ⟨a, rfl, ⟨xs, h⟩, for_list Pv h0 hl hs hd⟩
def lpT (K : PySem.W.Frag) (g : TG) (tb : TS) (D : Ends) (σ : S2) (x : V) (H : Hp) : Prop := ∃ a, x = .ref a ∧ (∃ xs, SqT K H a xs) ∧ ∃ W : Nat → Nat → S2 → Hp → Prop, (∃ m, W 0 m σ H) ∧ ∀ i m σ H, W i m σ H →
  ((Itt K a).stop i H ∧ D.nx σ H) ∨ ((Itt K a).go i H ∧ ∃ N : S2 → Hp → Prop, (∀ σ' H', N σ' H' → ∃ m', m' < m ∧ W (i + 1) m' σ' H') ∧ ∀ x H', (Itt K a).yld i H x H' → g x σ H' fun σ2 H2 => tb { D with nx := N, ct := N, bk := D.nx } σ2 H2)
theorem w_forT {tl : TE} {D : Ends} (q : tl σ H fun x H1 => lpT K g tb D σ x H1) : tFor (iTup K tl) g tb D σ H := q
theorem w_lpT (h : SqT K H a xs) (Pv : Nat → S2 → Hp → Prop) (h0 : Pv 0 σ H) (hl : ∀ i σ H, i ≤ xs.length → Pv i σ H → SqT K H a xs)
    (hs : ∀ i x σ H, xs[i]? = some x → Pv i σ H → g x σ H fun σ2 H2 => tb ⟨Pv (i + 1), rt, nx, Pv (i + 1)⟩ σ2 H2) (hd : ∀ σ H, Pv xs.length σ H → nx σ H) : lpT K g tb ⟨nx, rt, bk, ct⟩ σ (.ref a) H :=
  ⟨a, rfl, ⟨xs, h⟩, for_tup Pv h0 hl hs hd⟩
def lpR1 (g : TG) (tb : TS) (D : Ends) (σ : S2) (vs : List V) (H : Hp) : Prop := ∃ j : Int, vs = [.int j] ∧ -(2 ^ 62) ≤ j ∧ j < 2 ^ 62 ∧ ∃ W : Nat → Nat → S2 → Hp → Prop, (∃ m, W 0 m σ H) ∧ ∀ i m σ H, W i m σ H →
  ((Itr 0 j.toNat).stop i H ∧ D.nx σ H) ∨ ((Itr 0 j.toNat).go i H ∧ ∃ N : S2 → Hp → Prop, (∀ σ' H', N σ' H' → ∃ m', m' < m ∧ W (i + 1) m' σ' H') ∧ ∀ x H', (Itr 0 j.toNat).yld i H x H' → g x σ H' fun σ2 H2 => tb { D with nx := N, ct := N, bk := D.nx } σ2 H2)
theorem w_forR1 {ta : TA} {D : Ends} (q : ta σ H fun vs H1 => lpR1 g tb D σ vs H1) : tFor (iRng1 ta) g tb D σ H := q
theorem w_lpR1 {j : Int} (n : Nat) (e : j = (n : Int)) (hn : n ≤ 1000000) (Pv : Nat → S2 → Hp → Prop) (h0 : Pv 0 σ H)
    (hs : ∀ (i : Nat) σ H, i < n → Pv i σ H → g (.int (i : Int)) σ H fun σ2 H2 => tb ⟨Pv (i + 1), rt, nx, Pv (i + 1)⟩ σ2 H2) (hd : ∀ σ H, Pv n σ H → nx σ H) : lpR1 g tb ⟨nx, rt, bk, ct⟩ σ [.int j] H := by
  subst e
  refine ⟨n, rfl, by omega, by omega, ?_⟩
  rw [Int.toNat_natCast]
  exact for_range (lo := 0) Pv h0 (fun i σ H hi p => by rw [Int.zero_add]; exact hs i σ H hi p) hd
def lpET (K : PySem.W.Frag) (g : TG) (tb : TS) (D : Ends) (σ : S2) (vs : List V) (H : Hp) : Prop := ∃ a xs, vs = [.ref a] ∧ SqT K H a xs ∧ ∃ W : Nat → Nat → S2 → Hp → Prop, (∃ m, W 0 m σ H) ∧ ∀ i m σ H, W i m σ H →
  ((IteT K a).stop i H ∧ D.nx σ H) ∨ ((IteT K a).go i H ∧ ∃ N : S2 → Hp → Prop, (∀ σ' H', N σ' H' → ∃ m', m' < m ∧ W (i + 1) m' σ' H') ∧ ∀ x H', (IteT K a).yld i H x H' → g x σ H' fun σ2 H2 => tb { D with nx := N, ct := N, bk := D.nx } σ2 H2)
theorem w_forET {ta : TA} {D : Ends} (q : ta σ H fun vs H1 => lpET K g tb D σ vs H1) : tFor (iEnumT K ta) g tb D σ H := q
theorem w_lpET (h : SqT K H a xs) (Pv : Nat → S2 → Hp → Prop) (h0 : Pv 0 σ H) (hl : ∀ i σ H, i ≤ xs.length → Pv i σ H → SqT K H a xs)
    (hs : ∀ i x σ H T, xs[i]? = some x → Pv i σ H → H T = none → g (.ref T) σ (upd H T (.tup [.int (i : Nat), x])) fun σ2 H2 => tb ⟨Pv (i + 1), rt, nx, Pv (i + 1)⟩ σ2 H2) (hd : ∀ σ H, Pv xs.length σ H → nx σ H) : lpET K g tb ⟨nx, rt, bk, ct⟩ σ [.ref a] H :=
  ⟨a, xs, rfl, h, for_enumT Pv h0 hl hs hd⟩
theorem walk_enumT : Walk (IteT K a) xs.length (fun H => SqT K H a xs) (YPair (fun i => some (.int (i : Nat))) (fun i => xs[i]?)) := by
  refine ⟨fun i _ hi q => ⟨xs, xs[i], q, by simp [hi]⟩, fun _ q => ⟨xs, q, rfl⟩, fun i H v H' _ q y => ?_⟩
  obtain ⟨T, x, h1, h2, h3, h4⟩ := y
  exact ⟨T, .int (i : Nat), x, h1, h2, h3, rfl, h4 xs q⟩
end
/-! ### comprehensions -/
section
variable {K : PySem.W.Frag} {σ : S2} {H : Hp} {Q : VK} {a : Addr} {xs : List V} {g : TG} {tt : TT} {te : TE} {vs : List Nat} {β : Type} [DecidableEq β] [Datum β] [TupD β]
/-- the core: a walk that stands while M alone changes; R a resource; P what is known of the made items -/
theorem lc_go {Jt : It} {n : Nat} {G : Hp → Prop} {Y : Nat → Hp → V → Hp → Prop} (wk : Walk Jt n G Y) (M : List Addr) (R : Hp → Prop) (J : Nat → List β → Prop) (hn : n ≤ 1000000)
    (hM : ∀ m ∈ M, ∃ o, H m = some o) (hG : ∀ H1, Kp M H H1 → G H1) (hR0 : R H) (hR : ∀ H1 D o, H D = none → R H1 → R (upd H1 D o)) (J0 : J 0 []) 
    (hs : ∀ i x acc H1 H2 (QE : VK) (QF : Hp → Prop), i < n → Kp M H H1 → R H1 → J i acc → acc.length ≤ i → Y i H1 x H2 → (∀ v y H4, Kp M H1 H4 → R H4 → Is K H4 v y → J (i + 1) (acc ++ [y]) → QE v H4) → (∀ H3, Kp M H1 H3 → R H3 → J (i + 1) acc → QF H3) →
      g x (wipe σ vs) H2 fun σ2 H3 => wipe σ2 vs = wipe σ vs ∧ tt σ2 H3 fun b H4 => if b = true then te σ2 H4 QE else QF H4)
    (hd : ∀ D ws ys H', H D = none → Kp M H H' → R H' → J n ys → ys.length ≤ n → IsAll K H' ws ys → H' D = some (.lst ws) → Q (.ref D) H') :
    ∀ D, H D = none → ∃ W : Nat → Nat → Hp → Prop, (∃ m, W 0 m (upd H D (.lst []))) ∧ ∀ i m H, W i m H →
      (Jt.stop i H ∧ Q (.ref D) H) ∨ (Jt.go i H ∧ ∃ Nx : Hp → Prop, (∀ H', Nx H' → ∃ m', m' < m ∧ W (i + 1) m' H') ∧ ∀ x H', Jt.yld i H x H' → g x (wipe σ vs) H' fun σ2 H2 => wipe σ2 vs = wipe σ vs ∧ tt σ2 H2 fun b H3 =>
        if b = true then te σ2 H3 fun y H4 => ∃ acc, H4 D = some (.lst acc) ∧ acc.length < sizeLine ∧ Nx (upd H4 D (.lst (acc ++ [y]))) else Nx H3) := by
  intro D hD
  have hDM : D ∉ M := fun m => by
    obtain ⟨o, h⟩ := hM D m
    rw [hD] at h; cases h
  refine lc_it wk (fun i H1 => Kp M H H1 ∧ R H1 ∧ ∃ ws acc, H1 D = some (.lst ws) ∧ IsAll K H1 ws acc ∧ J i acc ∧ acc.length ≤ i) ⟨Kp.new hD, hR _ _ _ hD hR0, [], [], upd_same, .nil, J0, Nat.le_refl _⟩ (fun i H1 _ p => hG H1 p.1) ?_ ?_
  · rintro i x H1 H2 hi ⟨e1, r1, ws, acc, hws, ha, hj, hl⟩ hy
    refine hs i x acc H1 H2 _ _ hi e1 r1 hj hl hy (fun v y H4 e4 r4 h4 j4 => ?_) (fun H3 e3 r3 j3 => ?_)
    · have hws4 : H4 D = some (.lst ws) := e4.keep _ _ hws hDM
      have eu : Kp [D] H4 (upd H4 D (.lst (ws ++ [v]))) := Kp.set hws4 rfl (by simp)
      refine ⟨ws, hws4, ?_, (e1.trans e4).mut hD, hR _ _ _ hD r4, ws ++ [v], acc ++ [y], upd_same, (((ha.kp e4).kp eu).append (.cons (h4.kp eu) .nil)), j4, by simp; omega⟩
      rw [ha.length, sizeLine_eq]
      omega
    · exact ⟨e1.trans e3, r3, ws, acc, e3.keep _ _ hws hDM, ha.kp e3, j3, by omega⟩
  · rintro H1 ⟨e1, r1, ws, acc, hws, ha, hj, hl⟩
    exact hd D ws acc H1 hD e1 r1 hj hl ha hws
def lcL (K : PySem.W.Frag) (g : TG) (tt : TT) (te : TE) (vs : List Nat) (σ : S2) (Q : VK) (x : V) (H : Hp) : Prop := ∃ a, x = .ref a ∧ (∃ xs, SqL K H a xs) ∧ ∀ D, H D = none → ∃ W : Nat → Nat → Hp → Prop, (∃ m, W 0 m (upd H D (.lst []))) ∧ ∀ i m H, W i m H →
      ((Itl K a).stop i H ∧ Q (.ref D) H) ∨ ((Itl K a).go i H ∧ ∃ Nx : Hp → Prop, (∀ H', Nx H' → ∃ m', m' < m ∧ W (i + 1) m' H') ∧ ∀ x H', (Itl K a).yld i H x H' → g x (wipe σ vs) H' fun σ2 H2 => wipe σ2 vs = wipe σ vs ∧ tt σ2 H2 fun b H3 =>
        if b = true then te σ2 H3 fun y H4 => ∃ acc, H4 D = some (.lst acc) ∧ acc.length < sizeLine ∧ Nx (upd H4 D (.lst (acc ++ [y]))) else Nx H3)
theorem w_lcL {tl : TE} (q : tl σ H fun x H1 => lcL K g tt te vs σ Q x H1) : tLc (iList K tl) g tt te vs σ H Q := q
theorem w_lcLV (h : SqL K H a xs) (β : Type) [DecidableEq β] [Datum β] [TupD β] (M : List Addr) (R : Hp → Prop) (J : Nat → List β → Prop) (hn : xs.length ≤ 1000000)
    (hM : ∀ m ∈ M, ∃ o, H m = some o) (ha : a ∉ M) (hR0 : R H) (hR : ∀ H1 D o, H D = none → R H1 → R (upd H1 D o)) (J0 : J 0 []) 
    (hs : ∀ i x acc H1 (QE : VK) (QF : Hp → Prop), xs[i]? = some x → Kp M H H1 → R H1 → J i acc → acc.length ≤ i → (∀ v y H4, Kp M H1 H4 → R H4 → Is K H4 v y → J (i + 1) (acc ++ [y]) → QE v H4) → (∀ H3, Kp M H1 H3 → R H3 → J (i + 1) acc → QF H3) →
      g x (wipe σ vs) H1 fun σ2 H3 => wipe σ2 vs = wipe σ vs ∧ tt σ2 H3 fun b H4 => if b = true then te σ2 H4 QE else QF H4)
    (hd : ∀ D ws ys H', H D = none → Kp M H H' → R H' → J xs.length ys → ys.length ≤ xs.length → IsAll K H' ws ys → H' D = some (.lst ws) → Q (.ref D) H') : lcL K g tt te vs σ Q (.ref a) H :=
  ⟨a, rfl, ⟨xs, h⟩, lc_go (walk_list (xs := xs)) M R J hn hM (fun H1 e => e.sqL h ha) hR0 hR J0 (fun i x acc H1 H2 QE QF hi e r j l y => by
    obtain ⟨rfl, y⟩ := y
    exact hs i x acc _ QE QF y e r j l) hd⟩
def lcT (K : PySem.W.Frag) (g : TG) (tt : TT) (te : TE) (vs : List Nat) (σ : S2) (Q : VK) (x : V) (H : Hp) : Prop := ∃ a, x = .ref a ∧ (∃ xs, SqT K H a xs) ∧ ∀ D, H D = none → ∃ W : Nat → Nat → Hp → Prop, (∃ m, W 0 m (upd H D (.lst []))) ∧ ∀ i m H, W i m H →
      ((Itt K a).stop i H ∧ Q (.ref D) H) ∨ ((Itt K a).go i H ∧ ∃ Nx : Hp → Prop, (∀ H', Nx H' → ∃ m', m' < m ∧ W (i + 1) m' H') ∧ ∀ x H', (Itt K a).yld i H x H' → g x (wipe σ vs) H' fun σ2 H2 => wipe σ2 vs = wipe σ vs ∧ tt σ2 H2 fun b H3 =>
        if b = true then te σ2 H3 fun y H4 => ∃ acc, H4 D = some (.lst acc) ∧ acc.length < sizeLine ∧ Nx (upd H4 D (.lst (acc ++ [y]))) else Nx H3)
theorem w_lcT {tl : TE} (q : tl σ H fun x H1 => lcT K g tt te vs σ Q x H1) : tLc (iTup K tl) g tt te vs σ H Q := q
theorem w_lcTV (h : SqT K H a xs) (β : Type) [DecidableEq β] [Datum β] [TupD β] (M : List Addr) (R : Hp → Prop) (J : Nat → List β → Prop) (hn : xs.length ≤ 1000000)
    (hM : ∀ m ∈ M, ∃ o, H m = some o) (hR0 : R H) (hR : ∀ H1 D o, H D = none → R H1 → R (upd H1 D o)) (J0 : J 0 []) 
    (hs : ∀ i x acc H1 (QE : VK) (QF : Hp → Prop), xs[i]? = some x → Kp M H H1 → R H1 → J i acc → acc.length ≤ i → (∀ v y H4, Kp M H1 H4 → R H4 → Is K H4 v y → J (i + 1) (acc ++ [y]) → QE v H4) → (∀ H3, Kp M H1 H3 → R H3 → J (i + 1) acc → QF H3) →
      g x (wipe σ vs) H1 fun σ2 H3 => wipe σ2 vs = wipe σ vs ∧ tt σ2 H3 fun b H4 => if b = true then te σ2 H4 QE else QF H4)
    (hd : ∀ D ws ys H', H D = none → Kp M H H' → R H' → J xs.length ys → ys.length ≤ xs.length → IsAll K H' ws ys → H' D = some (.lst ws) → Q (.ref D) H') : lcT K g tt te vs σ Q (.ref a) H :=
  ⟨a, rfl, ⟨xs, h⟩, lc_go (walk_tup (xs := xs)) M R J hn hM (fun H1 e => e.sqT h) hR0 hR J0 (fun i x acc H1 H2 QE QF hi e r j l y => by
    obtain ⟨rfl, y⟩ := y
    exact hs i x acc _ QE QF y e r j l) hd⟩
def lcR1 (g : TG) (tt : TT) (te : TE) (vs : List Nat) (σ : S2) (Q : VK) (ws : List V) (H : Hp) : Prop := ∃ j : Int, ws = [.int j] ∧ -(2 ^ 62) ≤ j ∧ j < 2 ^ 62 ∧ ∀ D, H D = none → ∃ W : Nat → Nat → Hp → Prop, (∃ m, W 0 m (upd H D (.lst []))) ∧ ∀ i m H, W i m H →
      ((Itr 0 j.toNat).stop i H ∧ Q (.ref D) H) ∨ ((Itr 0 j.toNat).go i H ∧ ∃ Nx : Hp → Prop, (∀ H', Nx H' → ∃ m', m' < m ∧ W (i + 1) m' H') ∧ ∀ x H', (Itr 0 j.toNat).yld i H x H' → g x (wipe σ vs) H' fun σ2 H2 => wipe σ2 vs = wipe σ vs ∧ tt σ2 H2 fun b H3 =>
        if b = true then te σ2 H3 fun y H4 => ∃ acc, H4 D = some (.lst acc) ∧ acc.length < sizeLine ∧ Nx (upd H4 D (.lst (acc ++ [y]))) else Nx H3)
theorem w_lcR1 {ta : TA} (q : ta σ H fun ws H1 => lcR1 g tt te vs σ Q ws H1) : tLc (iRng1 ta) g tt te vs σ H Q := q
theorem w_lcR1V {j : Int} (K : PySem.W.Frag) (n : Nat) (e : j = (n : Int)) (β : Type) [DecidableEq β] [Datum β] [TupD β] (M : List Addr) (R : Hp → Prop) (J : Nat → List β → Prop) (hn : n ≤ 1000000)
    (hM : ∀ m ∈ M, ∃ o, H m = some o) (hR0 : R H) (hR : ∀ H1 D o, H D = none → R H1 → R (upd H1 D o)) (J0 : J 0 []) 
    (hs : ∀ (i : Nat) acc H1 (QE : VK) (QF : Hp → Prop), i < n → Kp M H H1 → R H1 → J i acc → acc.length ≤ i → (∀ v y H4, Kp M H1 H4 → R H4 → Is K H4 v y → J (i + 1) (acc ++ [y]) → QE v H4) → (∀ H3, Kp M H1 H3 → R H3 → J (i + 1) acc → QF H3) →
      g (.int (i : Int)) (wipe σ vs) H1 fun σ2 H3 => wipe σ2 vs = wipe σ vs ∧ tt σ2 H3 fun b H4 => if b = true then te σ2 H4 QE else QF H4)
    (hd : ∀ D ws ys H', H D = none → Kp M H H' → R H' → J n ys → ys.length ≤ n → IsAll K H' ws ys → H' D = some (.lst ws) → Q (.ref D) H') : lcR1 g tt te vs σ Q [.int j] H := by
  subst e
  refine ⟨n, rfl, by omega, by omega, ?_⟩
  rw [Int.toNat_natCast]
  exact lc_go (walk_range (lo := 0) (n := n)) M R J hn hM (fun _ _ => True.intro) hR0 hR J0 (fun i x acc H1 H2 QE QF hi e r j l y k1 k2 => by
    obtain ⟨rfl, rfl⟩ := y
    have h := hs i acc _ QE QF hi e r j l k1 k2
    show g (.int (0 + (i : Int))) _ _ _
    rw [Int.zero_add]
    exact h) hd
def lcR2 (g : TG) (tt : TT) (te : TE) (vs : List Nat) (σ : S2) (Q : VK) (ws : List V) (H : Hp) : Prop := ∃ i j : Int, ws = [.int i, .int j] ∧ (-(2 ^ 62) ≤ i ∧ i < 2 ^ 62 ∧ -(2 ^ 62) ≤ j ∧ j < 2 ^ 62) ∧ ∀ D, H D = none → ∃ W : Nat → Nat → Hp → Prop, (∃ m, W 0 m (upd H D (.lst []))) ∧ ∀ k m H, W k m H →
      ((Itr i (j - i).toNat).stop k H ∧ Q (.ref D) H) ∨ ((Itr i (j - i).toNat).go k H ∧ ∃ Nx : Hp → Prop, (∀ H', Nx H' → ∃ m', m' < m ∧ W (k + 1) m' H') ∧ ∀ x H', (Itr i (j - i).toNat).yld k H x H' → g x (wipe σ vs) H' fun σ2 H2 => wipe σ2 vs = wipe σ vs ∧ tt σ2 H2 fun b H3 =>
        if b = true then te σ2 H3 fun y H4 => ∃ acc, H4 D = some (.lst acc) ∧ acc.length < sizeLine ∧ Nx (upd H4 D (.lst (acc ++ [y]))) else Nx H3)
theorem w_lcR2 {ta : TA} (q : ta σ H fun ws H1 => lcR2 g tt te vs σ Q ws H1) : tLc (iRng2 ta) g tt te vs σ H Q := q
theorem w_lcR2V {lo hi : Int} (K : PySem.W.Frag) (n : Nat) (e : hi = lo + (n : Int)) (hlo : 0 ≤ lo ∧ lo ≤ 1000000) (β : Type) [DecidableEq β] [Datum β] [TupD β] (M : List Addr) (R : Hp → Prop) (J : Nat → List β → Prop) (hn : n ≤ 1000000)
    (hM : ∀ m ∈ M, ∃ o, H m = some o) (hR0 : R H) (hR : ∀ H1 D o, H D = none → R H1 → R (upd H1 D o)) (J0 : J 0 []) 
    (hs : ∀ (i : Nat) acc H1 (QE : VK) (QF : Hp → Prop), i < n → Kp M H H1 → R H1 → J i acc → acc.length ≤ i → (∀ v y H4, Kp M H1 H4 → R H4 → Is K H4 v y → J (i + 1) (acc ++ [y]) → QE v H4) → (∀ H3, Kp M H1 H3 → R H3 → J (i + 1) acc → QF H3) →
      g (.int (lo + (i : Int))) (wipe σ vs) H1 fun σ2 H3 => wipe σ2 vs = wipe σ vs ∧ tt σ2 H3 fun b H4 => if b = true then te σ2 H4 QE else QF H4)
    (hd : ∀ D ws ys H', H D = none → Kp M H H' → R H' → J n ys → ys.length ≤ n → IsAll K H' ws ys → H' D = some (.lst ws) → Q (.ref D) H') : lcR2 g tt te vs σ Q [.int lo, .int hi] H := by
  subst e
  refine ⟨lo, _, rfl, ⟨by omega, by omega, by omega, by omega⟩, ?_⟩
  rw [show (lo + (n : Int) - lo).toNat = n by omega]
  exact lc_go (walk_range (lo := lo) (n := n)) M R J hn hM (fun _ _ => True.intro) hR0 hR J0 (fun i x acc H1 H2 QE QF hi e r j l y k1 k2 => by
    obtain ⟨rfl, rfl⟩ := y
    exact hs i acc _ QE QF hi e r j l k1 k2) hd
theorem w_yes {Q : Bool → Hp → Prop} (q : Q true H) : tYes σ H Q := q
theorem w_and {A B : Prop} (a : A) (b : B) : A ∧ B := ⟨a, b⟩
end
end KP
namespace KP
open PySem PySem.Spec PyProof.Rows L2
/-! ### calls of built-ins, named -/
def rInt : List V → Hp → VK → Prop := fun xs H Q => (∃ i, xs = [.int i] ∧ Q (.int i) H) ∨ ∃ k, xs = [.bl k] ∧ Q (.int (if k then 1 else 0)) H
def rAbs : List V → Hp → VK → Prop := fun xs H Q => ∃ i, xs = [.int i] ∧ Q (.int (if i < 0 then -i else i)) H
def rLenQ (K : PySem.W.Frag) : List V → Hp → VK → Prop := fun xs H Q => ∃ p ys, xs = [.ref p] ∧ (SqL K H p ys ∨ SqT K H p ys) ∧ Q (.int ys.length) H
def rListQ (K : PySem.W.Frag) : List V → Hp → VK → Prop := fun xs H Q => ∃ p ys, xs = [.ref p] ∧ (SqL K H p ys ∨ SqT K H p ys) ∧ ∀ l, H l = none → Q (.ref l) (upd H l (.lst ys))
def rTupQ (K : PySem.W.Frag) : List V → Hp → VK → Prop := fun xs H Q => ∃ p ys, xs = [.ref p] ∧ ((SqL K H p ys ∧ ∀ l, H l = none → Q (.ref l) (upd H l (.tup ys))) ∨ (SqT K H p ys ∧ Q (.ref p) H))
def rMax2Q : List V → Hp → VK → Prop := fun xs H Q => ∃ i j, xs = [.int i, .int j] ∧ Q (.int (if j > i then j else i)) H
def rMin2Q : List V → Hp → VK → Prop := fun xs H Q => ∃ i j, xs = [.int i, .int j] ∧ Q (.int (if j < i then j else i)) H
section
variable {X : Cx}
theorem cq_int : CallR X (.type "int") rInt := call_int1
theorem cq_abs : CallR X (.builtin "abs") rAbs := call_abs
theorem cq_len : CallR X (.builtin "len") (rLenQ X.K) := call_len_seq
theorem cq_list : CallR X (.type "list") (rListQ X.K) := call_list_of
theorem cq_tuple : CallR X (.type "tuple") (rTupQ X.K) := call_tuple_of
theorem cq_max2 (hc : X.calm = true) : CallR X (.builtin "max") rMax2Q := call_max2 hc
theorem cq_min2 (hc : X.calm = true) : CallR X (.builtin "min") rMin2Q := call_min2 hc
variable {K : PySem.W.Frag} {H : Hp} {Q : VK} {p : Addr} {ys : List V}
theorem w_intI {i : Int} (q : Q (.int i) H) : rInt [.int i] H Q := .inl ⟨i, rfl, q⟩
theorem w_intB {b : Bool} (q : Q (.int (if b then 1 else 0)) H) : rInt [.bl b] H Q := .inr ⟨b, rfl, q⟩
theorem w_abs {i : Int} (q : Q (.int (if i < 0 then -i else i)) H) : rAbs [.int i] H Q := ⟨i, rfl, q⟩
theorem w_lenL (h : SqL K H p ys) (q : Q (.int ys.length) H) : rLenQ K [.ref p] H Q := ⟨p, ys, rfl, .inl h, q⟩
theorem w_lenT (h : SqT K H p ys) (q : Q (.int ys.length) H) : rLenQ K [.ref p] H Q := ⟨p, ys, rfl, .inr h, q⟩
theorem w_listL (h : SqL K H p ys) (q : ∀ l, H l = none → Q (.ref l) (upd H l (.lst ys))) : rListQ K [.ref p] H Q := ⟨p, ys, rfl, .inl h, q⟩
theorem w_listT (h : SqT K H p ys) (q : ∀ l, H l = none → Q (.ref l) (upd H l (.lst ys))) : rListQ K [.ref p] H Q := ⟨p, ys, rfl, .inr h, q⟩
theorem w_tupL (h : SqL K H p ys) (q : ∀ l, H l = none → Q (.ref l) (upd H l (.tup ys))) : rTupQ K [.ref p] H Q := ⟨p, ys, rfl, .inl ⟨h, q⟩⟩
theorem w_tupT (h : SqT K H p ys) (q : Q (.ref p) H) : rTupQ K [.ref p] H Q := ⟨p, ys, rfl, .inr ⟨h, q⟩⟩
theorem w_max2 {i j : Int} (q : Q (.int (if j > i then j else i)) H) : rMax2Q [.int i, .int j] H Q := ⟨i, j, rfl, q⟩
theorem w_min2 {i j : Int} (q : Q (.int (if j < i then j else i)) H) : rMin2Q [.int i, .int j] H Q := ⟨i, j, rfl, q⟩
theorem w_sum {ns : List Int} (h : SqL K H p (ns.map V.int)) (q : Q (.int ns.sum) H) : rSum K [.ref p] H Q := ⟨p, ns, rfl, h, q⟩
theorem w_all {bs : List Bool} (h : SqL K H p (bs.map V.bl)) (q : Q (.bl (bs.all id)) H) : rAll K [.ref p] H Q := ⟨p, bs, rfl, h, q⟩
theorem w_any {bs : List Bool} (h : SqL K H p (bs.map V.bl)) (q : Q (.bl (bs.any id)) H) : rAny K [.ref p] H Q := ⟨p, bs, rfl, h, q⟩
theorem w_isi {x c : V} {t u : Value} {b : Bool} (k : ClsV c u) (h : TyX K H x t) (e : PySem.W.kitOne K t u = some b) (q : Q (.bl b) H) : rIsi K [x, c] H Q := ⟨x, c, t, u, b, rfl, k, h, e, q⟩
theorem w_isiII {i : Int} (q : Q (.bl true) H) : rIsi K [.int i, .ty "int"] H Q := w_isi (.ty _) (.base (.int i)) (kit_ty (by decide +kernel)) q
theorem w_isiIB {i : Int} (q : Q (.bl false) H) : rIsi K [.int i, .ty "bool"] H Q := w_isi (.ty _) (.base (.int i)) (kit_ty (by decide +kernel)) q
theorem w_isiIT {i : Int} (q : Q (.bl false) H) : rIsi K [.int i, .ty "tuple"] H Q := w_isi (.ty _) (.base (.int i)) (kit_ty (by decide +kernel)) q
theorem tyx_tup (h : SqT K H p ys) : TyX K H (.ref p) (.type "tuple") := by
  rcases h with (h | ⟨o, h⟩) | ⟨o, its, n, hk, hc, _⟩
  · exact .base (.tup h)
  · exact .fTuple h
  · exact .kTuple hk hc
theorem w_isiTT (h : SqT K H p ys) (q : Q (.bl true) H) : rIsi K [.ref p, .ty "tuple"] H Q := w_isi (.ty _) (tyx_tup h) (kit_ty (by decide +kernel)) q
end
end KP
namespace KP
open PySem PySem.Spec PyProof.Rows L2
def cutI (ns : List Int) (lo hi : Option Int) : List Int := (ns.drop (HT.sIx ns.length 0 lo)).take (HT.sIx ns.length ns.length hi - HT.sIx ns.length 0 lo)
theorem cutV_ints (ns : List Int) (lo hi : Option Int) : cutV (ns.map V.int) lo hi = (cutI ns lo hi).map V.int := by
  unfold cutV cutI
  rw [List.length_map, List.map_take, List.map_drop]
theorem cutI_len (ns : List Int) (lo hi : Option Int) : (cutI ns lo hi).length ≤ ns.length := by
  unfold cutI
  rw [List.length_take, List.length_drop]
  omega
theorem cutI_len60 (ns : List Int) : (cutI ns none (some 60)).length ≤ 60 := by
  unfold cutI
  rw [List.length_take, List.length_drop]
  have : HT.sIx ns.length ns.length (some 60) = min 60 ns.length := HT.sIx_nat ns.length ns.length 60
  rw [this]
  omega
theorem int_at {ns : List Int} {i : Nat} {x : V} (h : (ns.map V.int)[i]? = some x) : ∃ c, x = V.int c := by
  rw [List.getElem?_map] at h
  cases e : ns[i]? with
  | none => rw [e] at h; cases h
  | some c => rw [e] at h; exact ⟨c, (Option.some.inj h).symm⟩
theorem int_at' {ns : List Int} {i : Nat} {x : V} (h : (ns.map V.int)[i]? = some x) : ∃ c, x = V.int c ∧ ns[i]? = some c := by
  rw [List.getElem?_map] at h
  cases e : ns[i]? with
  | none => rw [e] at h; cases h
  | some c => rw [e] at h; exact ⟨c, (Option.some.inj h).symm, rfl⟩
end KP
namespace KP
open PySem PySem.Spec PyProof.Rows L2
theorem pe_ty {X : Cx} {x : Str} {T : String} {pos : Pos} (hg : Gl X x) (hm : X.mg x = none) (hv : bootBuiltins x = some (.type T)) (hn : x ≠ "__name__" := by decide) (hd : (x == ("__debug__" : Str)) = false := by decide) : PE X (.Name x pos) (tC (.ty T)) := pe_bltn hg hm hv rfl hn hd
end KP
namespace KP
theorem w_itNT {A B : Prop} (h : B) : if (!true) = true then A else B := L2.iteF h
theorem w_itNF {A B : Prop} (h : A) : if (!false) = true then A else B := L2.iteT h
end KP
namespace KP
open PySem PySem.Spec PyProof.Rows L2
/-! ### rules with the written part named (so that they stand within comprehensions too) -/
section
variable {X : Cx} {tg o e l a b : Expr} {es : List Expr} {tl te to ta tb : TE} {t : TA} {f name : Str} {pos apos cpos pos' : Pos} {T id : String} {r : V → List V → Hp → VK → Prop}
theorem ix_listK (K : PySem.W.Frag) (h : X.K = K) : IxR X (rIxL K) := h ▸ ix_list
theorem ix_tupK (K : PySem.W.Frag) (h : X.K = K) : IxR X (rIxT K) := h ▸ ix_tup
theorem sl_listK (K : PySem.W.Frag) (h : X.K = K) : SlR X (rSlL K) := h ▸ sl_list
theorem sl_tupAK (K : PySem.W.Frag) (h : X.K = K) : SlR X (rSlA K) := h ▸ sl_tupA
theorem op_eqXK (K : PySem.W.Frag) (h : X.K = K) (hu : X.A.units + 64 < cLine) : OpR X (compareOp .Eq) (rEqX K) := h ▸ op_eqX hu
theorem op_neXK (K : PySem.W.Frag) (h : X.K = K) (hu : X.A.units + 64 < cLine) : OpR X (compareOp .NotEq) (rNeX K) := h ▸ op_neX hu
theorem op_inXK (K : PySem.W.Frag) (h : X.K = K) (hu : X.A.units + 64 < cLine) : OpR X (compareOp .In) (rInX K false) := h ▸ op_inX hu
theorem op_notInXK (K : PySem.W.Frag) (h : X.K = K) (hu : X.A.units + 64 < cLine) : OpR X (compareOp .NotIn) (rInX K true) := h ▸ op_notInX hu
theorem op_catAK (K : PySem.W.Frag) (h : X.K = K) : OpR X (binaryOp .Add) (rCatA K) := h ▸ op_catA
theorem op_repWK (K : PySem.W.Frag) (h : X.K = K) : OpR X (binaryOp .Mult) (rRepW K) := h ▸ op_repW
theorem call_isiK' (K : PySem.W.Frag) (h : X.K = K) : CallR X (.builtin "isinstance") (rIsi K) := h ▸ call_isi
theorem cq_lenK (K : PySem.W.Frag) (h : X.K = K) : CallR X (.builtin "len") (rLenQ K) := h ▸ cq_len
theorem cq_listK (K : PySem.W.Frag) (h : X.K = K) : CallR X (.type "list") (rListQ K) := h ▸ cq_list
theorem cq_tupleK (K : PySem.W.Frag) (h : X.K = K) : CallR X (.type "tuple") (rTupQ K) := h ▸ cq_tuple
theorem cr_sumK (K : PySem.W.Frag) (h : X.K = K) (hc : X.calm = true) : CallR X (.builtin "sum") (rSum K) := h ▸ cr_sum hc
theorem cr_allK (K : PySem.W.Frag) (h : X.K = K) (hc : X.calm = true) : CallR X (.builtin "all") (rAll K) := h ▸ cr_all hc
theorem cr_anyK (K : PySem.W.Frag) (h : X.K = K) (hc : X.calm = true) : CallR X (.builtin "any") (rAny K) := h ▸ cr_any hc
theorem cr_maxK (K : PySem.W.Frag) (h : X.K = K) (hc : X.calm = true) : CallR X (.builtin "max") (rMax K) := h ▸ cr_max hc
theorem cr_minK (K : PySem.W.Frag) (h : X.K = K) (hc : X.calm = true) : CallR X (.builtin "min") (rMin K) := h ▸ cr_min hc
theorem cr_sortedK (K : PySem.W.Frag) (h : X.K = K) : CallR X (.builtin "sorted") (rSorted K) := h ▸ cr_sorted
theorem cr_sortedSK (K : PySem.W.Frag) (h : X.K = K) : CallR X (.builtin "sorted") (rSortedS K) := h ▸ cr_sortedS
theorem pi_listK (K : PySem.W.Frag) (h : X.K = K) (hl : PE X l tl) : PI X tg l (iList K tl) := h ▸ pi_list hl
theorem pi_tupK (K : PySem.W.Frag) (h : X.K = K) (hl : PE X l tl) : PI X tg l (iTup K tl) := h ▸ pi_tup hl
theorem pi_enumTK {p tpos : Pos} {elts : List Expr} {kk : Nat} (K : PySem.W.Frag) (h : X.K = K) (hg : Gl X "enumerate") (hm : X.mg "enumerate" = none) (ha : PA X [e] t) (hs : starEach [e] X.env = [(false, eval e X.env)] := by rfl) :
    PI X (.Tuple elts kk tpos) (.Call (.Name "enumerate" p) [e] [] pos) (iEnumT K t) := h ▸ pi_enumT hg hm ha hs
theorem pe_fldK (K : PySem.W.Frag) (h : X.K = K) (he : PE X e te) (hb : attributeBase e f X.env (eval e X.env) = eval e X.env) : PE X (.Attribute e f pos) (tFld K te f) := h ▸ pe_fld he hb
theorem ps_fldK {value : Expr} {tv : TE} (K : PySem.W.Frag) (h : X.K = K) (ha : PE X o ta) (hv : PE X value tv) (hs : swapsWith value (some (.Attribute o f pos')) pos.line X.env = pure false) : PS X (.Assign [.Attribute o f pos'] value pos) (sFld K ta tv f) := h ▸ ps_fld ha hv hs
theorem pg_fldK (K : PySem.W.Frag) (h : X.K = K) (ho : PE X o to) : PG X (.Attribute o f pos) (gFld K to f) := h ▸ pg_fld ho
theorem pg_tupK {ts : TGs} {n k : Nat} (K : PySem.W.Frag) (h' : X.K = K) (hc : X.calm = true) (h : PGs X es ts) (hn : (assignEach es X.env).length = n := by rfl) (hst : (assignEach es X.env).findIdx? (·.1) = none := by rfl) : PG X (.Tuple es k pos) (gTup K n ts) := h' ▸ pg_tup hc h hn hst
theorem pg_unlK {ts : TGs} {n k : Nat} (K : PySem.W.Frag) (h' : X.K = K) (hc : X.calm = true) (h : PGs X es ts) (hn : (assignEach es X.env).length = n := by rfl) (hst : (assignEach es X.env).findIdx? (·.1) = none := by rfl) : PG X (.Tuple es k pos) (gUnl K n ts) := h' ▸ pg_unl hc h hn hst
theorem pe_bm0K (K : PySem.W.Frag) (h : X.K = K) (pa : PlainAttrs T) (slot : Slot T name id) (hty : typeOf (.builtin id) = pure (.type "method_descriptor")) (hm : MtR X id r) (ho : PE X o to)
    (hbase : attributeBase o name X.env (eval o X.env) = eval o X.env := by rfl) (hline : (apos.endLine == cpos.line) = true := by rfl) : PE X (.Call (.Attribute o name apos) [] [] cpos) (tBM0 K T r to) := h ▸ pe_bm0 pa slot hty hm ho hbase hline
theorem pe_bmK (K : PySem.W.Frag) (h : X.K = K) (pa : PlainAttrs T) (slot : Slot T name id) (hty : typeOf (.builtin id) = pure (.type "method_descriptor")) (hm : MtR X id r) (ho : PE X o to) (ha : PA X (e :: es) t)
    (hbase : attributeBase o name X.env (eval o X.env) = eval o X.env := by rfl)
    (hfew : ((backTo cpos (starEach (e :: es) X.env)).all (fun x => !x.1) && (backToKw cpos (keywordEach [] X.env)).all (fun x => x.1.isSome)
      && decide ((e :: es).length + ([] : List Keyword).length + (if ([] : List Keyword).isEmpty then 0 else 1) < 30)) = true := by rfl)
    (hline : (apos.endLine == cpos.line) = true := by rfl) (hs : starEach (e :: es) X.env = (false, eval e X.env) :: starEach es X.env := by rfl) (hplain : (backTo cpos (starEach es X.env)).any (·.1) = false := by rfl) :
    PE X (.Call (.Attribute o name apos) (e :: es) [] cpos) (tBM K T r to t) := h ▸ pe_bm pa slot hty hm ho ha hbase hfew hline hs hplain
theorem pe_revLK {k : Nat} {p1 p2 p3 : Pos} (K : PySem.W.Frag) (h : X.K = K) (he : PE X e te) : PE X (.Subscript e (.Slice none none (some (.UnaryOp .USub (.Constant (.int 1) k p1) p2)) p3) pos) (tRevL K te) := h ▸ pe_revL he
end
end KP
namespace KP
open PySem PySem.Spec PyProof.Rows L2
section
variable {σ : S2} {H : Hp} {t : TA} {i j l : Nat} {x y z : V} {nx : S2 → Hp → Prop} {rt : VK} {bk ct : S2 → Hp → Prop}
def par3 (i j l : Nat) (vs : List V) (σ : S2) (H : Hp) (q : S2 → Hp → Prop) : Prop := ∃ v w u, vs = [v, w, u] ∧ q (((σ.set i (some v)).set j (some w)).set l (some u)) H
theorem w_par3 (q : t σ H fun vs H1 => par3 i j l vs σ H1 nx) : tPar3 i j l t ⟨nx, rt, bk, ct⟩ σ H := q
theorem w_par3V {q : S2 → Hp → Prop} (h : q (((σ.set i (some x)).set j (some y)).set l (some z)) H) : par3 i j l [x, y, z] σ H q := ⟨x, y, z, rfl, h⟩
end
end KP
namespace KP
open PySem PySem.Spec PyProof.Rows L2
open PySem.W (Datum Tup)
section
variable {K : PySem.W.Frag} {H : Hp} {Q : VK} {v x y : V} {α : Type} [i1 : DecidableEq α] [i2 : Datum α] [i3 : TupD α] {xs ys : List α}
theorem Kp.hide {M N : List Addr} {H H1 H2 : Hp} (e : Kp M H H1) (f : Kp N H1 H2) (h : ∀ x ∈ N, x ∈ M ∨ H x = none) : Kp M H H2 := ⟨fun x o hx n => f.keep x o (e.keep x o hx n) fun m => (h x m).elim n fun z => (by rw [z] at hx; cases hx), fun x xs hx => f.tup x xs (e.tup x xs hx), fun x o u hx => f.frz x o u (e.frz x o u hx), fun x o hx => by
  obtain ⟨o', h'⟩ := e.dom x o hx
  exact f.dom x o' h'⟩
theorem Kp.hide1 {M : List Addr} {H H1 H2 : Hp} {p : Addr} (e : Kp M H H1) (f : Kp [p] H1 H2) (h : H p = none) : Kp M H H2 := e.hide f fun x m => .inr (by rw [List.mem_singleton.mp m]; exact h)
theorem Rng.upd {H : Hp} {a b p : Addr} {o : HO} (R : Rng H a b) (na : p ≠ a) (nb : p ≠ b) : Rng (upd H p o) a b := by
  obtain ⟨cs, s, r⟩ := R
  exact ⟨cs, s, by rw [upd_ne na.symm]; exact r.ha, by rw [upd_ne nb.symm]; exact r.hb, r.ne, r.len⟩
/-- the same while a comprehension's new list grows -/
theorem Rng.grow {H : Hp} {a b : Addr} (R0 : Rng H a b) : ∀ (H1 : Hp) (D : Addr) (o : HO), H D = none → Rng H1 a b → Rng (L2.upd H1 D o) a b := fun H1 D o hD R => R.upd (ne_free R0.da hD) (ne_free R0.db hD)
/-- a new instance, before its __init__ -/
theorem Kp.ins {M : List Addr} {H : Hp} {d dx C : Addr} {fs : List (Str × V)} (hd : H d = none) (hx : H dx = none) (ne : dx ≠ d) : Kp M H (upd (upd H dx (.own d)) d (.ins C dx fs)) := (Kp.new hx).trans (Kp.new (by rw [upd_ne (fun q => ne q.symm)]; exact hd))
/-- a part of a list, by the places of a slice -/
def cutD {β : Type} (xs : List β) (lo hi : Option Int) : List β := (xs.drop (HT.sIx xs.length 0 lo)).take (HT.sIx xs.length xs.length hi - HT.sIx xs.length 0 lo)
theorem cutD_lo {β : Type} (xs : List β) (k : Nat) : cutD xs (some (k : Int)) none = xs.drop k := by
  unfold cutD
  rw [HT.sIx_nat, HT.sIx_none]
  by_cases h : k ≤ xs.length
  · rw [Nat.min_eq_left h, List.take_of_length_le (by rw [List.length_drop]; omega)]
  · rw [Nat.min_eq_right (by omega), List.drop_of_length_le (Nat.le_refl _), List.drop_of_length_le (by omega), List.take_nil]
theorem cutD_hi {β : Type} (xs : List β) (k : Nat) : cutD xs none (some (k : Int)) = xs.take k := by
  unfold cutD
  rw [HT.sIx_nat, HT.sIx_none, List.drop_zero, Nat.sub_zero]
  by_cases h : k ≤ xs.length
  · rw [Nat.min_eq_left h]
  · rw [Nat.min_eq_right (by omega), List.take_of_length_le (Nat.le_refl _), List.take_of_length_le (by omega)]
theorem cutD_hii {β : Type} (xs : List β) (k : Int) : ∃ m : Nat, cutD xs none (some k) = xs.take m := ⟨_, by unfold cutD; rw [HT.sIx_none, List.drop_zero]⟩
theorem cutD_both {β : Type} (xs : List β) (k m : Nat) : cutD xs (some (k : Int)) (some (m : Int)) = (xs.drop k).take (m - k) := by
  unfold cutD
  rw [HT.sIx_nat, HT.sIx_nat]
  by_cases h : k ≤ xs.length
  · rw [Nat.min_eq_left h]
    by_cases h2 : m ≤ xs.length
    · rw [Nat.min_eq_left h2]
    · rw [Nat.min_eq_right (show xs.length ≤ m by omega), List.take_of_length_le (by rw [List.length_drop]; omega), List.take_of_length_le (by rw [List.length_drop]; omega)]
  · rw [Nat.min_eq_right (show xs.length ≤ k by omega), List.drop_of_length_le (Nat.le_refl _), List.drop_of_length_le (show xs.length ≤ k by omega), List.take_nil, List.take_nil]
theorem w_slD {lo hi : Option Int} (h : Is K H v (Tup.mk xs)) (q : ∀ (w : V) (H' : Hp), Kp [] H H' → Is K H' w (Tup.mk (cutD xs lo hi)) → Q w H') : rSlA K v lo hi H Q := by
  obtain ⟨a, vs, rfl, ha, hv⟩ := h.tupm
  have hl := hv.length
  have hc : IsAll K H (cutV vs lo hi) (cutD xs lo hi) := by
    unfold cutV cutD
    rw [hl]
    exact (hv.drop _).take _
  refine ⟨a, vs, rfl, ha, fun hw => ?_, fun _ p hp => q _ _ (Kp.new hp) (is_tup (SqT.of upd_same) (hc.kp (Kp.new (M := []) hp)))⟩
  refine q _ _ Kp.refl (is_tup ha ?_)
  have : cutD xs lo hi = xs := by
    unfold cutD
    rw [← hl, hw.1, hw.2, List.drop_zero, Nat.sub_zero, hl, List.take_length]
  rw [this]
  exact hv
theorem w_catD (h : Is K H x (Tup.mk xs)) (g : Is K H y (Tup.mk ys)) (e : xs.length + ys.length ≤ 1000000) (q : ∀ (w : V) (H' : Hp), Kp [] H H' → Is K H' w (Tup.mk (xs ++ ys)) → Q w H') : rCatA K x y H Q := by
  obtain ⟨a, vs, rfl, ha, hv⟩ := h.tupm
  obtain ⟨b, ws, rfl, hb, hw⟩ := g.tupm
  have l1 := hv.length
  have l2 := hw.length
  refine ⟨a, b, vs, ws, rfl, rfl, ha, hb, by rw [sizeLine_eq]; omega, fun e => ?_, fun _ e => ?_, fun _ _ p hp => ?_⟩
  · have : xs = [] := List.eq_nil_of_length_eq_zero (by rw [← l1, e]; rfl)
    subst this
    exact q _ _ Kp.refl g
  · have : ys = [] := List.eq_nil_of_length_eq_zero (by rw [← l2, e]; rfl)
    subst this
    exact q _ _ Kp.refl (by rw [List.append_nil]; exact h)
  · exact q _ _ (Kp.new hp) (is_tup (SqT.of upd_same) ((hv.append hw).kp (Kp.new (M := []) hp)))
theorem w_lenD (h : Is K H v (Tup.mk xs)) (q : Q (.int xs.length) H) : rLenQ K [v] H Q := by
  obtain ⟨a, vs, rfl, ha, hv⟩ := h.tupm
  refine w_lenT ha ?_
  rw [hv.length]
  exact q
theorem w_repD {z : Int} {k : Nat} (h : Is K H v (Tup.mk [z])) (h2 : 2 ≤ k) (h3 : k ≤ 100000) (q : ∀ (w : V) (H' : Hp), Kp [] H H' → Is K H' w (Tup.mk (List.replicate k z)) → Q w H') : rRepW K v (.int k) H Q := by
  obtain ⟨a, vs, rfl, ha, hv⟩ := h.tupm
  have := hv.ints
  subst this
  refine ⟨a, k, _, rfl, rfl, ha, by simp, by omega, by omega, by simp, fun p hp => q _ _ (Kp.new hp) (is_tup (SqT.of upd_same) ?_)⟩
  have : (List.replicate (k : Int).toNat ([z].map V.int)).flatten = (List.replicate k z).map V.int := by
    rw [Int.toNat_natCast]
    clear q h h2 h3 ha hv
    induction k with
    | zero => rfl
    | succ k ih => rw [List.replicate_succ, List.flatten_cons, ih, List.replicate_succ]; rfl
  rw [this]
  exact isAll_ints _
theorem w_tupD {vs : List V} {p : Addr} (h : H p = some (.lst vs)) (hv : IsAll K H vs xs) (q : ∀ (w : V) (H' : Hp), Kp [] H H' → Is K H' w (Tup.mk xs) → Q w H') : rTupQ K [.ref p] H Q :=
  w_tupL (SqL.of h) fun l hl => q _ _ (Kp.new hl) (is_tup (SqT.of upd_same) (hv.kp (Kp.new (M := []) hl)))
/-- a new tuple of typed things -/
theorem is_newT {vs : List V} {p : Addr} (hp : H p = none) (hv : IsAll K H vs xs) : Is K (upd H p (.tup vs)) (.ref p) (Tup.mk xs) := is_tup (SqT.of upd_same) (hv.kp (Kp.new (M := []) hp))
theorem w_eqS {s t : Str} (q : Q (.bl (decide (s = t))) H) : rEq (.str s) (.str t) H Q := w_rEq rfl (by
  have e : decide (V.str s = V.str t) = decide (s = t) := by simp
  rw [e]; exact q)
end
end KP
namespace KP
open PySem PySem.Spec PyProof.Rows L2
open PySem.W (Datum Tup Holds HoldAll)
/-! ### texts -/
/-- < of two ints or of two texts -/
def rLtA : R2 := fun x y H Q => (∃ i j, x = .int i ∧ y = .int j ∧ Q (.bl (decide (i < j))) H) ∨ ∃ s t, x = .str s ∧ y = .str t ∧ Q (.bl (decide (s.cps.toList < t.cps.toList))) H
theorem op_ltA {X : Cx} : OpR X (compareOp .Lt) rLtA := by
  intro pins s σ H x y v u Q I rx ry h
  rcases h with h | h
  · exact op_lt pins s σ H x y v u Q I rx ry h
  · exact op_lt_str pins s σ H x y v u Q I rx ry h
def rCatS : R2 := fun x y H Q => ∃ i j, x = .str i ∧ y = .str j ∧ i.length + j.length ≤ sizeLine ∧ Q (.str (i ++ j)) H
def rLenS : List V → Hp → VK → Prop := fun xs H Q => ∃ z, xs = [.str z] ∧ z.length ≤ sizeLine ∧ Q (.int z.length) H
theorem op_catS {X : Cx} : OpR X (binaryOp .Add) rCatS := op_add_str
theorem cq_lenS {X : Cx} : CallR X (.builtin "len") rLenS := call_len_str
theorem ix_strS {X : Cx} : IxR X rIxS := ix_str
theorem op_inS' {X : Cx} : OpR X (compareOp .In) rInS := op_inS
/-- < of typed things -/
def rLtD (K : PySem.W.Frag) : R2 := fun x y H Q => ∃ (α : Type) (_ : DecidableEq α) (_ : PySem.W.DatumOrd α) (a b : α), Is K H x a ∧ Is K H y b ∧ Datum.depth α ≤ 60 ∧ Q (.bl (PySem.W.DatumOrd.lt a b)) H
theorem op_ltD {X : Cx} (hu : X.A.units + 64 < cLine) : OpR X (compareOp .Lt) (rLtD X.K) := by
  intro pins s σ H x y v u Q I rx ry h
  obtain ⟨α, i1, i2, a, b, ha, hb, hd, q⟩ := h
  exact PySem.W.lt_datum (ha.holds I rx) (hb.holds I ry) (by omega) ⟨.bl _, H, I, rfl, q⟩
/-- t.count(x), l.count(x) of typed things -/
def rCountD (K : PySem.W.Frag) : V → List V → Hp → VK → Prop := fun x ws H Q => ∃ (α : Type) (_ : DecidableEq α) (_ : Datum α) (a : α) (b : List α) (p : Addr) (vs : List V) (y : V), x = .ref p ∧ ws = [y] ∧ SqT K H p vs ∧ IsAll K H vs b ∧ Is K H y a ∧ Datum.depth α ≤ 60 ∧ Q (.int ((b.countP fun z => decide (z = a) : Nat) : Int)) H
theorem mt_countD {X : Cx} (hu : X.A.units + 64 < cLine) : MtR X "tuple.count" (rCountD X.K) := by
  intro pins s σ H x vs v u Q I rx rv h
  obtain ⟨α, i1, i2, a, b, p, ws, y, rfl, rfl, hs, hb, ha, hd, q⟩ := h
  cases rx
  obtain ⟨its, r, ⟨o, ho, hc, n, hd'⟩, _⟩ := I.tuple hs
  cases rv with
  | cons r1 rr =>
    cases rr
    exact PySem.W.count_tuple_datum ⟨o, ho, hc, n, hd'⟩ (by simpa using hb.holds I r) (ha.holds I r1) (by omega) ⟨.int _, H, I.kept (t' := s.toks + 1) (fun _ _ q => q), ⟨_, rfl⟩, q⟩
/-- min of a list of pairs of ints -/
def rMinP (K : PySem.W.Frag) : List V → Hp → VK → Prop := fun ws H Q => ∃ (p : Addr) (vs : List V) (b : List (Int × Int)), ws = [.ref p] ∧ SqL K H p vs ∧ IsAll K H vs b ∧ b ≠ [] ∧
  ∀ (v : V) (m : Int × Int), Is K H v m → m ∈ b → (∀ y ∈ b, m.1 < y.1 ∨ (m.1 = y.1 ∧ m.2 ≤ y.2)) → Q v H
theorem minOf_mem : ∀ (xs : List (Int × Int)) (x : Int × Int), PySem.W.minOf x xs ∈ x :: xs ∧ ∀ y ∈ x :: xs, (PySem.W.minOf x xs).1 < y.1 ∨ ((PySem.W.minOf x xs).1 = y.1 ∧ (PySem.W.minOf x xs).2 ≤ y.2)
  | [], x => ⟨List.mem_cons_self .., fun y hy => by rw [List.mem_singleton.mp hy]; exact .inr ⟨rfl, Int.le_refl _⟩⟩
  | z :: zs, x => by
    have hl : PySem.W.minOf x (z :: zs) = PySem.W.minOf (if PySem.W.DatumOrd.lt z x = true then z else x) zs := rfl
    have hlt : PySem.W.DatumOrd.lt z x = if z.1 = x.1 then decide (z.2 < x.2) else decide (z.1 < x.1) := rfl
    rw [hl]
    have key : ∀ w : Int × Int, (w = z ∨ w = x) → (∀ y : Int × Int, (y = z ∨ y = x) → w.1 < y.1 ∨ (w.1 = y.1 ∧ w.2 ≤ y.2)) → PySem.W.minOf w zs ∈ x :: z :: zs ∧ ∀ y ∈ x :: z :: zs, (PySem.W.minOf w zs).1 < y.1 ∨ ((PySem.W.minOf w zs).1 = y.1 ∧ (PySem.W.minOf w zs).2 ≤ y.2) := fun w hw hm => by
      obtain ⟨h1, h2⟩ := minOf_mem zs w
      refine ⟨?_, fun y hy => ?_⟩
      · rcases List.mem_cons.mp h1 with h1 | h1
        · rw [h1]; rcases hw with e | e <;> rw [e] <;> simp
        · exact List.mem_cons_of_mem _ (List.mem_cons_of_mem _ h1)
      · have h0 := h2 w (List.mem_cons_self ..)
        rcases List.mem_cons.mp hy with e | hy
        · have := hm y (.inr e); omega
        · rcases List.mem_cons.mp hy with e | hy
          · have := hm y (.inl e); omega
          · exact h2 y (List.mem_cons_of_mem _ hy)
    by_cases c : PySem.W.DatumOrd.lt z x = true
    · rw [if_pos c]
      refine key z (.inl rfl) fun y hy => ?_
      rcases hy with rfl | rfl
      · exact .inr ⟨rfl, Int.le_refl _⟩
      · rw [hlt] at c
        by_cases e : z.1 = y.1
        · rw [if_pos e] at c; have := of_decide_eq_true c; omega
        · rw [if_neg e] at c; have := of_decide_eq_true c; omega
    · rw [if_neg c]
      refine key x (.inr rfl) fun y hy => ?_
      rcases hy with rfl | rfl
      · rw [hlt] at c
        by_cases e : y.1 = x.1
        · rw [if_pos e] at c; have : ¬ y.2 < x.2 := fun h => c (decide_eq_true h); omega
        · rw [if_neg e] at c; have : ¬ y.1 < x.1 := fun h => c (decide_eq_true h); omega
      · exact .inr ⟨rfl, Int.le_refl _⟩
theorem cr_minP {X : Cx} (hc : X.calm = true) (hu : X.A.units + 64 < cLine) : CallR X (.builtin "min") (rMinP X.K) := by
  intro pins s σ H vs us Q I r h
  obtain ⟨p, ws, b, rfl, hs, hb, hne, q⟩ := h
  rw [Vals.ref1 r]
  obtain ⟨its, rv, hl, _⟩ := I.list hs
  cases b with
  | nil => exact absurd rfl hne
  | cons x xs =>
    refine PySem.W.min_list_datum (I.ok.hd hc) hl.isList (by simpa using hb.holds I rv) (by show X.A.units + 1 + 1 < cLine; omega) fun i v h' tk hi hm hk => ?_
    have hi' : its[i]? = some v := by simpa using hi
    obtain ⟨w, hw, rw'⟩ : ∃ w, ws[i]? = some w ∧ RelV w v := by
      have hlen := rv.length
      have : i < ws.length := by rw [hlen]; exact (List.getElem?_eq_some_iff.mp hi').1
      obtain ⟨u, hu', ru⟩ := rv.get (i := i) (x := ws[i]) (by simp [this])
      rw [hi'] at hu'
      cases hu'
      exact ⟨ws[i], by simp [this], ru⟩
    obtain ⟨y, hy, iy⟩ := hb.get hw
    have I2 : Inv X [] σ H { s with heap := h', toks := tk } ∨ True := .inr trivial
    have hI : Holds h' v y := (iy.holds I rw').keeps hk
    obtain ⟨l1, a1, b1, e1, t1, p1, p2⟩ := PySem.W.pair_of_holds hI
    obtain ⟨l2, a2, b2, e2, t2, p3, p4⟩ := PySem.W.pair_of_holds hm
    have el : l1 = l2 := by rw [e1] at e2; cases e2; rfl
    subst el
    obtain ⟨o1, g1, c1, n1, d1⟩ := t1
    obtain ⟨o2, g2, c2, n2, d2⟩ := t2
    rw [g1] at g2
    cases g2
    rw [d1] at d2
    have hmy : PySem.W.minOf x xs = y := by
      obtain ⟨ta, ea⟩ := PySem.W.int_of_holds p1
      obtain ⟨tb, eb⟩ := PySem.W.int_of_holds p2
      obtain ⟨tc, ec⟩ := PySem.W.int_of_holds p3
      obtain ⟨td, ed⟩ := PySem.W.int_of_holds p4
      rw [ea, eb, ec, ed] at d2
      injection d2 with d2
      injection d2 with d2
      injection d2 with d3 d4
      injection d3 with d3
      injection d4 with d4 _
      injection d4 with d4
      exact (Prod.ext d3 d4).symm
    obtain ⟨m1, m2⟩ := minOf_mem xs x
    rw [hmy] at m1 m2
    exact ⟨w, H, I.kept hk, rw', q w y iy m1 m2⟩
section
variable {K : PySem.W.Frag} {σ : S2} {H : Hp} {Q : VK} {a : Addr} {xs : List V} {g : TG} {tt : TT} {te : TE} {vs : List Nat}
theorem w_ltI {i j : Int} (q : Q (.bl (decide (i < j))) H) : rLtA (.int i) (.int j) H Q := .inl ⟨i, j, rfl, rfl, q⟩
theorem w_ltS {i j : Str} (q : Q (.bl (decide (i.cps.toList < j.cps.toList))) H) : rLtA (.str i) (.str j) H Q := .inr ⟨i, j, rfl, rfl, q⟩
theorem w_catS {i j : Str} (h : i.length + j.length ≤ 1000000) (q : Q (.str (i ++ j)) H) : rCatS (.str i) (.str j) H Q := ⟨i, j, rfl, rfl, by rw [sizeLine_eq]; omega, q⟩
theorem w_lenS {i : Str} (h : i.length ≤ 1000000) (q : Q (.int i.length) H) : rLenS [.str i] H Q := ⟨i, rfl, by rw [sizeLine_eq]; omega, q⟩
theorem w_ixS {z : Str} {i : Int} {c : Nat} (h : z.length ≤ 1000000) (e : atI z.cps.toList i = some c) (q : Q (.str ⟨#[c]⟩) H) : rIxS (.str z) (.int i) H Q := ⟨z, i, c, rfl, rfl, by rw [sizeLine_eq]; omega, e, q⟩
theorem w_inS {c : Nat} {z : Str} (q : Q (.bl (decide (c ∈ z.cps.toList))) H) : rInS (.str ⟨#[c]⟩) (.str z) H Q := ⟨c, z, rfl, rfl, q⟩
theorem w_isiSS {z : Str} (q : Q (.bl true) H) : rIsi K [.str z, .ty "str"] H Q := w_isi (.ty _) (.base (.str z)) (kit_ty (by decide +kernel)) q
theorem w_listRg {te : S2 → Hp → (Int → Int → Hp → Prop) → Prop} (q : te σ H fun a b H1 => RgOk a b ∧ ∀ q, H1 q = none → Q (.ref q) (upd H1 q (.lst (rgV a b)))) : tLstRg te σ H Q := q
theorem w_rg1 {ta : TE} {q : Int → Int → Hp → Prop} (h : ta σ H fun x H1 => ∃ n, x = .int n ∧ q 0 n H1) : tRg1 ta σ H q := h
theorem rgV_nat (n : Nat) : rgV 0 (n : Int) = ((List.range n).map fun i => ((i : Nat) : Int)).map V.int := by
  unfold rgV
  rw [List.map_map, show ((n : Int) - 0).toNat = n by omega]
  congr 1
  funext i
  show V.int (0 + (i : Int)) = _
  rw [Int.zero_add]
  rfl
def lcS (g : TG) (tt : TT) (te : TE) (vs : List Nat) (σ : S2) (Q : VK) (x : V) (H : Hp) : Prop := ∃ z, x = .str z ∧ ∀ D, H D = none → ∃ W : Nat → Nat → Hp → Prop, (∃ m, W 0 m (upd H D (.lst []))) ∧ ∀ i m H, W i m H →
      ((Its z).stop i H ∧ Q (.ref D) H) ∨ ((Its z).go i H ∧ ∃ Nx : Hp → Prop, (∀ H', Nx H' → ∃ m', m' < m ∧ W (i + 1) m' H') ∧ ∀ x H', (Its z).yld i H x H' → g x (wipe σ vs) H' fun σ2 H2 => wipe σ2 vs = wipe σ vs ∧ tt σ2 H2 fun b H3 =>
        if b = true then te σ2 H3 fun y H4 => ∃ acc, H4 D = some (.lst acc) ∧ acc.length < sizeLine ∧ Nx (upd H4 D (.lst (acc ++ [y]))) else Nx H3)
theorem w_lcS {tl : TE} (q : tl σ H fun x H1 => lcS g tt te vs σ Q x H1) : tLc (iStr tl) g tt te vs σ H Q := q
theorem w_lcSV {z : Str} (K : PySem.W.Frag) (β : Type) [DecidableEq β] [Datum β] [TupD β] (M : List Addr) (R : Hp → Prop) (J : Nat → List β → Prop) (hn : z.cps.size ≤ 1000000)
    (hM : ∀ m ∈ M, ∃ o, H m = some o) (hR0 : R H) (hR : ∀ H1 D o, H D = none → R H1 → R (upd H1 D o)) (J0 : J 0 []) 
    (hs : ∀ i c acc H1 (QE : VK) (QF : Hp → Prop), z.cps[i]? = some c → Kp M H H1 → R H1 → J i acc → acc.length ≤ i → (∀ v y H4, Kp M H1 H4 → R H4 → Is K H4 v y → J (i + 1) (acc ++ [y]) → QE v H4) → (∀ H3, Kp M H1 H3 → R H3 → J (i + 1) acc → QF H3) →
      g (.str ⟨#[c]⟩) (wipe σ vs) H1 fun σ2 H3 => wipe σ2 vs = wipe σ vs ∧ tt σ2 H3 fun b H4 => if b = true then te σ2 H4 QE else QF H4)
    (hd : ∀ D ws ys H', H D = none → Kp M H H' → R H' → J z.cps.size ys → ys.length ≤ z.cps.size → IsAll K H' ws ys → H' D = some (.lst ws) → Q (.ref D) H') : lcS g tt te vs σ Q (.str z) H :=
  ⟨z, rfl, lc_go (walk_str (z := z)) M R J hn hM (fun _ _ => True.intro) hR0 hR J0 (fun i x acc H1 H2 QE QF hi e r j l y => by
    obtain ⟨rfl, c, hc, rfl⟩ := y
    exact hs i c acc _ QE QF hc e r j l) hd⟩
def lcET (K : PySem.W.Frag) (g : TG) (tt : TT) (te : TE) (vs : List Nat) (σ : S2) (Q : VK) (ws : List V) (H : Hp) : Prop := ∃ a xs, ws = [.ref a] ∧ SqT K H a xs ∧ ∀ D, H D = none → ∃ W : Nat → Nat → Hp → Prop, (∃ m, W 0 m (upd H D (.lst []))) ∧ ∀ i m H, W i m H →
      ((IteT K a).stop i H ∧ Q (.ref D) H) ∨ ((IteT K a).go i H ∧ ∃ Nx : Hp → Prop, (∀ H', Nx H' → ∃ m', m' < m ∧ W (i + 1) m' H') ∧ ∀ x H', (IteT K a).yld i H x H' → g x (wipe σ vs) H' fun σ2 H2 => wipe σ2 vs = wipe σ vs ∧ tt σ2 H2 fun b H3 =>
        if b = true then te σ2 H3 fun y H4 => ∃ acc, H4 D = some (.lst acc) ∧ acc.length < sizeLine ∧ Nx (upd H4 D (.lst (acc ++ [y]))) else Nx H3)
theorem w_lcET {ta : TA} (q : ta σ H fun ws H1 => lcET K g tt te vs σ Q ws H1) : tLc (iEnumT K ta) g tt te vs σ H Q := q
theorem w_lcETV (h : SqT K H a xs) (β : Type) [DecidableEq β] [Datum β] [TupD β] (M : List Addr) (R : Hp → Prop) (J : Nat → List β → Prop) (hn : xs.length ≤ 1000000)
    (hM : ∀ m ∈ M, ∃ o, H m = some o) (hR0 : R H) (hR : ∀ H1 D o, H D = none → R H1 → R (upd H1 D o)) (J0 : J 0 []) 
    (hs : ∀ i x acc H1 (T : Addr) (QE : VK) (QF : Hp → Prop), xs[i]? = some x → Kp M H H1 → R H1 → J i acc → acc.length ≤ i → H1 T = none → (∀ v y H4, Kp M H1 H4 → R H4 → Is K H4 v y → J (i + 1) (acc ++ [y]) → QE v H4) → (∀ H3, Kp M H1 H3 → R H3 → J (i + 1) acc → QF H3) →
      g (.ref T) (wipe σ vs) (upd H1 T (.tup [.int (i : Nat), x])) fun σ2 H3 => wipe σ2 vs = wipe σ vs ∧ tt σ2 H3 fun b H4 => if b = true then te σ2 H4 QE else QF H4)
    (hd : ∀ D ws ys H', H D = none → Kp M H H' → R H' → J xs.length ys → ys.length ≤ xs.length → IsAll K H' ws ys → H' D = some (.lst ws) → Q (.ref D) H') : lcET K g tt te vs σ Q [.ref a] H :=
  ⟨a, xs, rfl, h, lc_go (walk_enumT (xs := xs)) M R J hn hM (fun H1 e => e.sqT h) hR0 hR J0 (fun i x acc H1 H2 QE QF hi e r j l y => by
    obtain ⟨T, u, w, rfl, hT, rfl, e1, e2⟩ := y
    cases e1
    exact hs i w acc _ T QE QF e2 e r j l hT) hd⟩
end
section
variable {X : Cx}
theorem op_ltDK (K : PySem.W.Frag) (h : X.K = K) (hu : X.A.units + 64 < cLine) : OpR X (compareOp .Lt) (rLtD K) := h ▸ op_ltD hu
theorem mt_countDK (K : PySem.W.Frag) (h : X.K = K) (hu : X.A.units + 64 < cLine) : MtR X "tuple.count" (rCountD K) := h ▸ mt_countD hu
theorem cr_minPK (K : PySem.W.Frag) (h : X.K = K) (hc : X.calm = true) (hu : X.A.units + 64 < cLine) : CallR X (.builtin "min") (rMinP K) := h ▸ cr_minP hc hu
end
end KP
namespace KP
open PySem PySem.Spec PyProof.Rows L2
open PySem.W (Datum Tup DatumOrd)
abbrev TInt := Tup Int
def tups (rs : List (List Int)) : List TInt := rs.map Tup.mk
theorem tups_items : ∀ ys : List TInt, tups (ys.map Tup.items) = ys
  | [] => rfl
  | y :: ys => by
    show Tup.mk y.items :: tups (ys.map Tup.items) = y :: ys
    rw [tups_items ys]
def letters : Str := "abcdefghijklmnopqrstuvwxyz"
/-- a name that the tables take -/
def NameOk (s : Str) : Prop := 1 ≤ s.length ∧ s.length ≤ 8 ∧ ∀ c ∈ s.cps.toList, c ∈ letters.cps.toList
def ascAt {α : Type} [DecidableEq α] [DatumOrd α] (xs : List α) (i : Nat) : Bool := match xs[i]?, xs[i + 1]? with
  | some a, some b => DatumOrd.lt a b
  | _, _ => true
def ascD {α : Type} [DecidableEq α] [DatumOrd α] (xs : List α) : Bool := (List.range (xs.length - 1)).all (ascAt xs)
theorem range_all_succ (f : Nat → Bool) (i : Nat) : (List.range (i + 1)).all f = ((List.range i).all f && f i) := by
  rw [List.range_succ, List.all_append]; simp
theorem ascD_cons {α : Type} [DecidableEq α] [DatumOrd α] (x y : α) (xs : List α) : ascD (x :: y :: xs) = (DatumOrd.lt x y && ascD (y :: xs)) := by
  unfold ascD
  have e : (x :: y :: xs).length - 1 = (y :: xs).length - 1 + 1 := by simp
  rw [e, List.range_succ_eq_map, List.all_cons, List.all_map]
  rfl
theorem ascD_of {α : Type} [DecidableEq α] [DatumOrd α] : ∀ {xs : List α}, xs.Pairwise (fun a b => DatumOrd.lt a b = true) → ascD xs = true
  | [], _ => rfl
  | [x], _ => rfl
  | x :: y :: xs, h => by
    rw [ascD_cons, ascD_of (List.pairwise_cons.mp h).2, (List.pairwise_cons.mp h).1 y (List.mem_cons_self ..)]
    rfl
theorem ascI_pair : ∀ {xs : List Int}, ascD xs = true → xs.Pairwise (· < ·)
  | [], _ => .nil
  | [x], _ => by simp
  | x :: y :: xs, h => by
    rw [ascD_cons, Bool.and_eq_true] at h
    have h1 : x < y := of_decide_eq_true h.1
    have h2 := ascI_pair h.2
    refine List.pairwise_cons.mpr ⟨fun z hz => ?_, h2⟩
    rcases List.mem_cons.mp hz with e | hz
    · rw [e]; exact h1
    · have := (List.pairwise_cons.mp h2).1 z hz; omega
theorem ascI_of {xs : List Int} (h : xs.Pairwise (· < ·)) : ascD xs = true := ascD_of (h.imp fun h => decide_eq_true h)
theorem str_ext {s t : Str} (h : s.cps.toList = t.cps.toList) : s = t := by
  cases s; cases t
  simp only at h
  rw [Array.toList_inj.mp h]
theorem asc_rising : ∀ (ys : List Str) (x : Str), risingS x ys = true → (x :: ys).Nodup → ascD (x :: ys) = true
  | [], _, _, _ => rfl
  | y :: ys, x, h, n => by
    unfold risingS at h
    rw [Bool.and_eq_true] at h
    have n' := List.nodup_cons.mp n
    rw [ascD_cons, asc_rising ys y h.2 n'.2, Bool.and_true]
    have h1 : ¬ y.cps.toList < x.cps.toList := by
      have := h.1
      rw [ltCps_eq] at this
      intro c
      rw [decide_eq_true c] at this
      cases this
    have h2 : x.cps.toList ≠ y.cps.toList := fun e => n'.1 (by rw [str_ext e]; exact List.mem_cons_self ..)
    exact decide_eq_true (Std.lt_of_le_of_ne h1 h2)
theorem asc_sorted {ys : List Str} (h : sortedS ys = true) (n : ys.Nodup) : ascD ys = true := by
  cases ys with
  | nil => rfl
  | cons x ys => exact asc_rising ys x h n
def suf : Str := "cmxafrdzkbwe"
/-- names so far: each ends with its own sign -/
structure NamesR (ys : List Str) : Prop where
  ok : ∀ s ∈ ys, NameOk s
  last : ∀ (j : Nat) (s : Str), ys[j]? = some s → s.cps.toList.getLast? = suf.cps.toList[j]?
theorem suf_nodup : suf.cps.toList.Nodup := by decide +kernel
theorem suf_len : suf.cps.toList.length = 12 := by decide +kernel
theorem suf_letters : ∀ c ∈ suf.cps.toList, c ∈ letters.cps.toList := by decide +kernel
theorem letters_len : letters.cps.toList.length = 26 := by decide +kernel
theorem NamesR.nodup {ys : List Str} (h : NamesR ys) (hl : ys.length ≤ 12) : ys.Nodup := by
  refine List.pairwise_iff_getElem.mpr fun i j hi hj hij e => ?_
  have h1 := h.last i ys[i] (by simp)
  have h2 := h.last j ys[i] (by rw [e]; simp)
  rw [h1] at h2
  have hi' : i < suf.cps.toList.length := by rw [suf_len]; omega
  have hj' : j < suf.cps.toList.length := by rw [suf_len]; omega
  rw [List.getElem?_eq_getElem hi', List.getElem?_eq_getElem hj'] at h2
  exact List.pairwise_iff_getElem.mp suf_nodup i j hi' hj' hij (Option.some.inj h2)
theorem str_app_list (s t : Str) : (s ++ t).cps.toList = s.cps.toList ++ t.cps.toList := by
  show (s.cps ++ t.cps).toList = _
  simp
theorem str_app_len (s t : Str) : (s ++ t).length = s.length + t.length := by
  show (s.cps ++ t.cps).size = _
  simp [Str.length]
theorem NamesR.step {ys : List Str} {word : Str} {c : Nat} (h : NamesR ys) (hw : word.length ≤ 7) (hl : ∀ c ∈ word.cps.toList, c ∈ letters.cps.toList) (hc : suf.cps.toList[ys.length]? = some c) : NamesR (ys ++ [word ++ ⟨#[c]⟩]) := by
  refine ⟨fun s hs => ?_, fun j s hs => ?_⟩
  · rcases List.mem_append.mp hs with hs | hs
    · exact h.ok s hs
    · rw [List.mem_singleton.mp hs]
      refine ⟨by rw [str_app_len]; show 1 ≤ word.length + 1; omega, by rw [str_app_len]; show word.length + 1 ≤ 8; omega, fun d hd => ?_⟩
      rw [str_app_list] at hd
      rcases List.mem_append.mp hd with hd | hd
      · exact hl d hd
      · have : d = c := by simpa using hd
        rw [this]; exact suf_letters c (List.mem_of_getElem? hc)
  · by_cases hj : j < ys.length
    · rw [List.getElem?_append_left hj] at hs
      exact h.last j s hs
    · have hjl : j = ys.length := by
        have := (List.getElem?_eq_some_iff.mp hs).1
        simp at this; omega
      subst hjl
      rw [List.getElem?_append_right (Nat.le_refl _)] at hs
      simp at hs
      rw [← hs, hc, str_app_list]
      simp
/-- a listing of numbers below b -/
def listB (xs : List Int) (b : Int) : Bool := xs.all (fun x => decide (0 ≤ x)) && xs.all (fun x => decide (x < b)) && ascD xs
theorem listB_iff {xs : List Int} {b : Int} : listB xs b = true ↔ (∀ x ∈ xs, 0 ≤ x ∧ x < b) ∧ xs.Pairwise (· < ·) := by
  unfold listB
  rw [Bool.and_eq_true, Bool.and_eq_true, List.all_eq_true, List.all_eq_true]
  constructor
  · rintro ⟨⟨h1, h2⟩, h3⟩
    exact ⟨fun x hx => ⟨of_decide_eq_true (h1 x hx), of_decide_eq_true (h2 x hx)⟩, ascI_pair h3⟩
  · rintro ⟨h, h3⟩
    exact ⟨⟨fun x hx => decide_eq_true (h x hx).1, fun x hx => decide_eq_true (h x hx).2⟩, ascI_of h3⟩
structure TabOk (kn : List Str) (types : List (Str × TInt)) : Prop where
  k1 : 1 ≤ kn.length
  k2 : kn.length ≤ 8
  kok : ∀ s ∈ kn, NameOk s
  ka : ascD kn = true
  t2 : types.length ≤ 12
  tn : ∀ p ∈ types, NameOk p.1
  ta : ascD (types.map Prod.fst) = true
  tl : ∀ p ∈ types, listB p.2.items (kn.length : Nat) = true
def tf (vk vt : V) : List (Str × V) := [("kinds", vk), ("types", vt)]
theorem tf_k (vk vt : V) : (tf vk vt).lookup ("kinds" : Str) = some vk := by kernel_rfl
theorem tf_t (vk vt : V) : (tf vk vt).lookup ("types" : Str) = some vt := by kernel_rfl
theorem tf1 (vk : V) : putF ("kinds" : Str) vk [] = ([("kinds", vk)] : List (Str × V)) := by kernel_rfl
theorem tf2 (vk vt : V) : putF ("types" : Str) vt [("kinds", vk)] = tf vk vt := by kernel_rfl
structure TabR (K : PySem.W.Frag) (C : Addr) (H : Hp) (t : Addr) (kn : List Str) (types : List (Str × TInt)) : Prop where
  ins : ∃ dx vk vt, H t = some (.ins C dx (tf vk vt)) ∧ Is K H vk (Tup.mk kn) ∧ Is K H vt (Tup.mk types)
  ok : TabOk kn types
theorem TabR.kp {K : PySem.W.Frag} {C : Addr} {H H' : Hp} {t : Addr} {kn : List Str} {types : List (Str × TInt)} {M : List Addr} (h : TabR K C H t kn types) (e : Kp M H H') (ht : t ∉ M) : TabR K C H' t kn types := by
  obtain ⟨⟨dx, vk, vt, h1, h2, h3⟩, ok⟩ := h
  exact ⟨⟨dx, vk, vt, e.keep _ _ h1 ht, h2.kp e, h3.kp e⟩, ok⟩
section
variable {K : PySem.W.Frag} {σ : S2} {H : Hp} {Q : VK} {g : TG} {tt : TT} {te : TE} {vs : List Nat}
/-- range of what is less than one -/
theorem w_lcR1N {j : Int} (h : j ≤ 0) (hb : -1000 ≤ j) (q : lcR1 g tt te vs σ Q [.int 0] H) : lcR1 g tt te vs σ Q [.int j] H := by
  obtain ⟨j', e, b1, b2, r⟩ := q
  cases e
  refine ⟨j, rfl, by omega, by omega, ?_⟩
  rw [show j.toNat = (0 : Int).toNat by omega]
  exact r
theorem w_lcR1Z {j : Int} (K : PySem.W.Frag) (n : Nat) (e : n = j.toNat) (hb : -1000 ≤ j) (β : Type) [DecidableEq β] [Datum β] [TupD β] (M : List Addr) (R : Hp → Prop) (J : Nat → List β → Prop) (hn : n ≤ 1000000)
    (hM : ∀ m ∈ M, ∃ o, H m = some o) (hR0 : R H) (hR : ∀ H1 D o, H D = none → R H1 → R (upd H1 D o)) (J0 : J 0 [])
    (hs : ∀ (i : Nat) acc H1 (QE : VK) (QF : Hp → Prop), i < n → Kp M H H1 → R H1 → J i acc → acc.length ≤ i → (∀ v y H4, Kp M H1 H4 → R H4 → Is K H4 v y → J (i + 1) (acc ++ [y]) → QE v H4) → (∀ H3, Kp M H1 H3 → R H3 → J (i + 1) acc → QF H3) →
      g (.int (i : Int)) (wipe σ vs) H1 fun σ2 H3 => wipe σ2 vs = wipe σ vs ∧ tt σ2 H3 fun b H4 => if b = true then te σ2 H4 QE else QF H4)
    (hd : ∀ D ws ys H', H D = none → Kp M H H' → R H' → J n ys → ys.length ≤ n → IsAll K H' ws ys → H' D = some (.lst ws) → Q (.ref D) H') : lcR1 g tt te vs σ Q [.int j] H := by
  by_cases h : 0 ≤ j
  · exact w_lcR1V K n (by omega) β M R J hn hM hR0 hR J0 hs hd
  · exact w_lcR1N (by omega) hb (w_lcR1V K n (by omega) β M R J hn hM hR0 hR J0 hs hd)
end
/-! ### promises -/
def spInt : Sp := fun vs H Q _ => ∃ i : Int, vs = [.int i] ∧ Q (.bl true) H
def spNum : Sp := fun vs H Q _ => ∃ i : Int, vs = [.int i] ∧ Q (.bl (decide (0 ≤ i))) H
def spName : Sp := fun vs H Q _ => ∃ s : Str, vs = [.str s] ∧ NameOk s ∧ ∀ H', Kp [] H H' → Q (.bl true) H'
def spNums (K : PySem.W.Frag) : Sp := fun vs H Q _ => ∃ (v : V) (xs : List Int), vs = [v] ∧ Is K H v (Tup.mk xs) ∧ xs.length ≤ 100000 ∧ ∀ H', Kp [] H H' → Q (.bl (xs.all fun x => decide (0 ≤ x))) H'
def spAsc (K : PySem.W.Frag) : Sp := fun vs H Q _ => ∃ (α : Type) (_ : DecidableEq α) (_ : DatumOrd α) (_ : TupD α) (v : V) (xs : List α), vs = [v] ∧ Is K H v (Tup.mk xs) ∧ Datum.depth α ≤ 60 ∧ xs.length ≤ 100000 ∧ ∀ H', Kp [] H H' → Q (.bl (ascD xs)) H'
def spListing (K : PySem.W.Frag) : Sp := fun vs H Q _ => ∃ (v : V) (xs : List Int) (b : Int), vs = [v, .int b] ∧ Is K H v (Tup.mk xs) ∧ xs.length ≤ 100000 ∧ ∀ H', Kp [] H H' → Q (.bl (listB xs b)) H'
def spKinds (K : PySem.W.Frag) : Sp := fun vs H Q _ => ∃ (v : V) (xs : List Str), vs = [v] ∧ Is K H v (Tup.mk xs) ∧ 1 ≤ xs.length ∧ xs.length ≤ 8 ∧ (∀ s ∈ xs, NameOk s) ∧ ascD xs = true ∧ ∀ H', Kp [] H H' → Q (.bl true) H'
def spType (K : PySem.W.Frag) : Sp := fun vs H Q _ => ∃ (vk v l : V) (kn : List Str) (p : Str × TInt), vs = [vk, v, l] ∧ Is K H vk (Tup.mk kn) ∧ Is K H v p ∧ kn.length ≤ 8 ∧ NameOk p.1 ∧ listB p.2.items (kn.length : Nat) = true ∧ (l = .non ∨ ∃ s, l = .str s ∧ DatumOrd.lt s p.1 = true) ∧ ∀ H', Kp [] H H' → Q (.bl true) H'
def spTable (K : PySem.W.Frag) (C : Addr) : Sp := fun vs H Q _ => ∃ (t dx : Addr) (vk vt : V) (kn : List Str) (types : List (Str × TInt)), vs = [.ref t, vk, vt] ∧ H t = some (.ins C dx []) ∧ Is K H vk (Tup.mk kn) ∧ Is K H vt (Tup.mk types) ∧ TabOk kn types ∧
  ∀ H', TabR K C H' t kn types → Kp [t] H H' → Q .non H'
def spNames (K : PySem.W.Frag) : Sp := fun vs H Q _ => ∃ (a b : Addr) (n : Nat), vs = [.ref a, .int n] ∧ Rng H a b ∧ n ≤ 12 ∧
  ∀ (H' : Hp) (p : Addr) (ys : List Str), Kp [a, b] H H' → Rng H' a b → H' p = some (.lst (ys.map V.str)) → H p = none → ys.length = n → (∀ s ∈ ys, NameOk s) → ascD ys = true → Q (.ref p) H'
def spTab (K : PySem.W.Frag) (C : Addr) : Sp := fun vs H Q _ => ∃ (a b l : Addr) (n : Nat) (ws : List V) (lots : List TInt), vs = [.ref a, .int n, .ref l] ∧ Rng H a b ∧ H l = some (.lst ws) ∧ IsAll K H ws lots ∧ l ≠ a ∧ l ≠ b ∧ 1 ≤ n ∧ n ≤ 8 ∧ lots.length ≤ 12 ∧ (∀ t ∈ lots, listB t.items n = true) ∧
  ∀ (H' : Hp) (t : Addr) (kn : List Str) (types : List (Str × TInt)), TabR K C H' t kn types → kn.length = n → types.map Prod.snd = lots → Kp [a, b] H H' → Rng H' a b → H t = none → Q (.ref t) H'
def spShuf (K : PySem.W.Frag) : Sp := fun vs H Q _ => ∃ (α : Type) (_ : DecidableEq α) (_ : Datum α) (_ : TupD α) (a b s : Addr) (ws : List V) (xs : List α), vs = [.ref a, .ref s] ∧ Rng H a b ∧ SqL K H s ws ∧ IsAll K H ws xs ∧ Datum.depth α ≤ 50 ∧ xs.length ≤ 1000 ∧
  ∀ (H' : Hp) (p : Addr) (us : List V) (ys : List α), Kp [a, b] H H' → Rng H' a b → H' p = some (.lst us) → IsAll K H' us ys → ys.Perm xs → H p = none → Q (.ref p) H'
def spLots (K : PySem.W.Frag) : Sp := fun vs H Q _ => ∃ (a b : Addr) (n m : Nat), vs = [.ref a, .int n, .int m] ∧ Rng H a b ∧ 1 ≤ n ∧ n ≤ 8 ∧ m ≤ 12 ∧
  ∀ (H' : Hp) (p : Addr) (ws : List V) (lots : List TInt), Kp [a, b] H H' → Rng H' a b → H' p = some (.lst ws) → IsAll K H' ws lots → lots.length = m → (∀ t ∈ lots, listB t.items n = true) → H p = none → Q (.ref p) H'
/-- no two kinds cross -/
def Lam (lots : List TInt) : Prop := ∀ (k l : Int), (∃ t ∈ lots, k ∈ t.items ∧ l ∈ t.items) → (∀ t ∈ lots, k ∈ t.items → l ∈ t.items) ∨ (∀ t ∈ lots, l ∈ t.items → k ∈ t.items)
def spForest (K : PySem.W.Frag) : Sp := fun vs H Q _ => ∃ (a b : Addr) (n m : Nat), vs = [.ref a, .int n, .int m] ∧ Rng H a b ∧ 1 ≤ n ∧ n ≤ 8 ∧ m ≤ 12 ∧
  ∀ (H' : Hp) (p : Addr) (ws : List V) (lots : List TInt), Kp [a, b] H H' → Rng H' a b → H' p = some (.lst ws) → IsAll K H' ws lots → lots.length = m → (∀ t ∈ lots, listB t.items n = true) → Lam lots → H p = none → Q (.ref p) H'
def spLong (K : PySem.W.Frag) : Sp := fun vs H Q _ => ∃ (a b : Addr) (n m : Nat), vs = [.ref a, .int n, .int m] ∧ Rng H a b ∧ 1 ≤ n ∧ n ≤ 1000 ∧ m ≤ 1000 ∧
  ∀ (H' : Hp) (v : V) (row : List Int), Kp [a, b] H H' → Rng H' a b → Is K H' v (Tup.mk row) → row.length = m → (∀ x ∈ row, 0 ≤ x ∧ x < n) → Q v H'
end KP
namespace KP
open PySem PySem.Spec PyProof.Rows L2
open PySem.W (Datum Tup DatumOrd)
theorem erase_perm {α : Type} : ∀ (xs : List α) (i : Nat) (x : α), xs[i]? = some x → (x :: xs.eraseIdx i).Perm xs
  | [], _, _, h => by simp at h
  | y :: ys, 0, x, h => by
    have : y = x := by simpa using h
    subst this
    exact .refl _
  | y :: ys, i + 1, x, h => by
    have := erase_perm ys i x (by simpa using h)
    exact (List.Perm.swap y x _).trans (this.cons y)
theorem IsAll.erase {K : PySem.W.Frag} {H : Hp} {α : Type} [DecidableEq α] [Datum α] : ∀ {vs : List V} {xs : List α} (i : Nat), IsAll K H vs xs → IsAll K H (vs.eraseIdx i) (xs.eraseIdx i)
  | [], [], _, h => h
  | v :: vs, x :: xs, 0, h => h.uncons.2
  | v :: vs, x :: xs, i + 1, h => .cons h.uncons.1 (IsAll.erase i h.uncons.2)
  | [], _ :: _, _, h => by cases h
  | _ :: _, [], _, h => by cases h
theorem seqIx {z : Int} {n : Nat} (h0 : 0 ≤ z) (h1 : z < n) : seqIndex? z n = some z.toNat := by
  unfold seqIndex?
  simp [show ¬ z < 0 by omega, h0, h1]
/-! ### a forest of kinds -/
inductive Anc (A : List Int) : Int → Int → Prop
  | refl {x : Int} (h : 0 ≤ x) : Anc A x x
  | up {x p y : Int} (h : 0 ≤ x) (hp : A[x.toNat]? = some p) (r : Anc A p y) : Anc A x y
theorem Anc.trans {A : List Int} {x y z : Int} (h : Anc A x y) (g : Anc A y z) : Anc A x z := by
  induction h with
  | refl _ => exact g
  | up h hp _ ih => exact .up h hp (ih g)
theorem Anc.line {A : List Int} {c x y : Int} (h : Anc A c x) (g : Anc A c y) : Anc A x y ∨ Anc A y x := by
  induction h with
  | refl _ => exact .inl g
  | up h hp r ih =>
    cases g with
    | refl _ => exact .inr (.up h hp r)
    | up _ hp2 r2 =>
      rw [hp] at hp2
      cases hp2
      exact ih r2
theorem Anc.nonneg {A : List Int} {x y : Int} (h : Anc A x y) : 0 ≤ x := by
  cases h with
  | refl h => exact h
  | up h _ _ => exact h
/-- the parents stand below -/
def AboveR (A : List Int) : Prop := ∀ (i : Nat) (x : Int), A[i]? = some x → -1 ≤ x ∧ x < i
/-- the lot of a path, by the order O of the kinds -/
def PathLot (A O : List Int) (t : TInt) : Prop := ∃ c : Int, ∀ z, z ∈ t.items ↔ ∃ y : Int, Anc A c y ∧ O[y.toNat]? = some z
theorem lam_of_paths {A O : List Int} {lots : List TInt} (hO : O.Nodup) (hp : ∀ x y : Int, Anc A x y → 0 ≤ y) (h : ∀ t ∈ lots, PathLot A O t) : Lam lots := by
  rintro k l ⟨t, ht, hk, hl⟩
  obtain ⟨c, hc⟩ := h t ht
  obtain ⟨x, ax, ox⟩ := (hc k).mp hk
  obtain ⟨y, ay, oy⟩ := (hc l).mp hl
  have inj : ∀ (u v z : Int), 0 ≤ u → 0 ≤ v → O[u.toNat]? = some z → O[v.toNat]? = some z → u = v := fun u v z hu hv h1 h2 => by
    have l1 := (List.getElem?_eq_some_iff.mp h1)
    have l2 := (List.getElem?_eq_some_iff.mp h2)
    obtain ⟨l1, e1⟩ := l1
    obtain ⟨l2, e2⟩ := l2
    have hd := List.pairwise_iff_getElem.mp hO
    rcases Nat.lt_trichotomy u.toNat v.toNat with c | c | c
    · exact absurd (e1.trans e2.symm) (hd _ _ l1 l2 c)
    · omega
    · exact absurd (e2.trans e1.symm) (hd _ _ l2 l1 c)
  have go : ∀ (x y k l : Int), Anc A x y → 0 ≤ x → O[x.toNat]? = some k → O[y.toNat]? = some l → ∀ t ∈ lots, k ∈ t.items → l ∈ t.items := fun x y k l axy hx ox oy t ht hk => by
    obtain ⟨d, hd⟩ := h t ht
    obtain ⟨x', ax', ox'⟩ := (hd k).mp hk
    have : x' = x := inj x' x k (hp _ _ ax') hx ox' ox
    subst this
    exact (hd l).mpr ⟨y, ax'.trans axy, oy⟩
  rcases ax.line ay with r | r
  · exact .inl (go x y k l r r.nonneg ox oy)
  · exact .inr (go y x l k r r.nonneg oy ox)
end KP
namespace KP
open PySem PySem.Spec PyProof.Rows L2
open PySem.W (Datum Tup DatumOrd)
structure UpR (A : List Int) (n j : Nat) (c0 c : Int) (vis : List Int) : Prop where
  lo : -1 ≤ c
  hi : c ≤ (n : Int) - 1 - j
  anc : ∀ y, Anc A c0 y ↔ y ∈ vis ∨ Anc A c y
  rng : ∀ y ∈ vis, 0 ≤ y ∧ y < n ∧ c < y
  desc : vis.Pairwise (· > ·)
theorem UpR.start {A : List Int} {n : Nat} {c : Int} (h : -1 ≤ c) (g : c ≤ (n : Int) - 1) : UpR A n 0 c c [] := ⟨h, by omega, fun y => by simp, (fun y h => by cases h), .nil⟩
theorem UpR.step {A : List Int} {n j : Nat} {c0 c p : Int} {vis : List Int} (u : UpR A n j c0 c vis) (hA : AboveR A) (hc : 0 ≤ c) (hp : A[c.toNat]? = some p) : UpR A n (j + 1) c0 p (vis ++ [c]) := by
  have ha := hA _ _ hp
  have hh := u.hi
  refine ⟨ha.1, by omega, fun y => ?_, fun y hy => ?_, List.pairwise_append.mpr ⟨u.desc, by simp, fun x hx y hy => ?_⟩⟩
  · rw [u.anc, List.mem_append, List.mem_singleton]
    constructor
    · rintro (h | h)
      · exact .inl (.inl h)
      · cases h with
        | refl _ => exact .inl (.inr rfl)
        | up _ hp2 r =>
          rw [hp] at hp2
          cases hp2
          exact .inr r
    · rintro ((h | h) | h)
      · exact .inl h
      · subst h; exact .inr (.refl hc)
      · exact .inr (.up hc hp h)
  · rcases List.mem_append.mp hy with hy | hy
    · have := u.rng y hy; omega
    · have := List.mem_singleton.mp hy; omega
  · have := List.mem_singleton.mp hy
    have := u.rng x hx
    omega
theorem UpR.stay {A : List Int} {n j : Nat} {c0 c : Int} {vis : List Int} (u : UpR A n j c0 c vis) (hc : ¬ 0 ≤ c) (hj : j < n) : UpR A n (j + 1) c0 c vis := ⟨u.lo, by have := u.lo; omega, u.anc, u.rng, u.desc⟩
theorem strict_of {zs : List Int} (h : zs.Pairwise (· ≤ ·)) (n : zs.Nodup) : zs.Pairwise (· < ·) := (h.and n).imp fun h => by
  have h1 := h.1
  have h2 : _ ≠ _ := h.2
  omega
theorem UpR.done {A O : List Int} {n : Nat} {c0 c : Int} {vis zs : List Int} (u : UpR A n n c0 c vis) (hl : O.length = n) (hO : O.Nodup) (hr : ∀ z ∈ O, 0 ≤ z ∧ z < n) (hp : zs.Perm (vis.map fun y => O.getD y.toNat 0)) (hs : zs.Pairwise (· ≤ ·)) : listB zs n = true ∧ PathLot A O (Tup.mk zs) := by
  have hi := u.hi
  have hg : ∀ y ∈ vis, ∃ h : y.toNat < O.length, O.getD y.toNat 0 = O[y.toNat] := fun y hy => by
    have := u.rng y hy
    refine ⟨by omega, ?_⟩
    rw [List.getD_eq_getElem?_getD, List.getElem?_eq_getElem (by omega)]
    rfl
  have hd := List.pairwise_iff_getElem.mp hO
  have hnd : (vis.map fun y => O.getD y.toNat 0).Nodup := by
    refine List.pairwise_map.mpr (u.desc.imp_of_mem fun {x y} hx hy hxy => ?_)
    obtain ⟨l1, e1⟩ := hg x hx
    obtain ⟨l2, e2⟩ := hg y hy
    have r1 := u.rng x hx
    have r2 := u.rng y hy
    rw [e1, e2]
    exact fun e => hd y.toNat x.toNat l2 l1 (by omega) e.symm
  have hmem : ∀ z, z ∈ zs ↔ ∃ y ∈ vis, O.getD y.toNat 0 = z := fun z => by rw [hp.mem_iff, List.mem_map]
  refine ⟨listB_iff.mpr ⟨fun x hx => ?_, strict_of hs (hp.nodup_iff.mpr hnd)⟩, c0, fun z => ?_⟩
  · obtain ⟨y, hy, e⟩ := (hmem x).mp hx
    obtain ⟨l1, e1⟩ := hg y hy
    rw [← e, e1]
    exact hr _ (List.getElem_mem _)
  · show z ∈ zs ↔ _
    rw [hmem]
    constructor
    · rintro ⟨y, hy, e⟩
      obtain ⟨l1, e1⟩ := hg y hy
      exact ⟨y, (u.anc y).mpr (.inl hy), by rw [List.getElem?_eq_getElem l1, ← e1, e]⟩
    · rintro ⟨y, hy, e⟩
      rcases (u.anc y).mp hy with h | h
      · obtain ⟨l1, e1⟩ := hg y h
        rw [List.getElem?_eq_getElem l1] at e
        exact ⟨y, h, by rw [e1]; exact Option.some.inj e⟩
      · have := h.nonneg
        omega
theorem Anc.low {A : List Int} (hA : AboveR A) {x y : Int} (h : Anc A x y) : 0 ≤ y := by
  induction h with
  | refl h => exact h
  | up _ _ _ ih => exact ih
end KP
namespace KP
open PySem PySem.Spec PyProof.Rows L2
open PySem.W (Datum Tup DatumOrd)
theorem atI_of {α : Type} {xs : List α} {z : Int} {x : α} (h0 : 0 ≤ z) (h : xs[z.toNat]? = some x) : atI xs z = some x := by
  have e : z = ((z.toNat : Nat) : Int) := by omega
  rw [e]
  exact atI_nat h
theorem int_idx {xs : List Int} {z : Int} (h0 : 0 ≤ z) (h1 : z < xs.length) : ∃ x, xs[z.toNat]? = some x ∧ x ∈ xs ∧ atI (xs.map V.int) z = some (.int x) := by
  have g : xs[z.toNat]? = some (xs[z.toNat]'(by omega)) := List.getElem?_eq_getElem (by omega)
  exact ⟨_, g, List.getElem_mem _, atI_of h0 (by rw [List.getElem?_map, g]; rfl)⟩
end KP
namespace KP
open PySem PySem.Spec PyProof.Rows L2
open PySem.W (Datum Tup DatumOrd)
section
variable {K : PySem.W.Frag} {H : Hp} {Q : VK}
theorem w_isiNI (q : Q (.bl false) H) : rIsi K [.non, .ty "int"] H Q := w_isi (.ty _) (.base .non) (kit_ty (by decide +kernel)) q
theorem Is.opt {v : V} {o : Option Int} (h : Is K H v o) : (v = .non ∧ o = none) ∨ ∃ i, v = .int i ∧ o = some i := by
  cases o with
  | none =>
    have h : Dp K H v .none := h
    cases h
    exact .inl ⟨rfl, rfl⟩
  | some i =>
    have h : Dp K H v (.int i) := h
    cases h
    exact .inr ⟨i, rfl, rfl⟩
theorem isAll_some : ∀ ns : List Int, IsAll K H (ns.map V.int) (ns.map some)
  | [] => .nil
  | n :: ns => .cons (is_some n) (isAll_some ns)
theorem take_eq {α : Type} [DecidableEq α] {x y : List α} {i : Nat} {a b : α} (hx : x[i]? = some a) (hy : y[i]? = some b) : x.take (i + 1) = y.take (i + 1) ↔ x.take i = y.take i ∧ a = b := by
  rw [List.take_add_one, List.take_add_one, hx, hy]
  have hl : (x.take i).length = (y.take i).length := by
    have h1 := (List.getElem?_eq_some_iff.mp hx).1
    have h2 := (List.getElem?_eq_some_iff.mp hy).1
    rw [List.length_take, List.length_take]; omega
  refine ⟨fun h => ?_, fun h => by rw [h.1, h.2]⟩
  obtain ⟨h1, h2⟩ := List.append_inj h hl
  exact ⟨h1, by simpa using h2⟩
end
def spSame (K : PySem.W.Frag) : Sp := fun vs H Q _ => ∃ (v : V) (l : Addr) (ws : List V) (x y : List (Option Int)), vs = [v, .ref l] ∧ Is K H v (Tup.mk x) ∧ SqL K H l ws ∧ IsAll K H ws y ∧ y.length ≤ 100000 ∧ Q (.bl (decide (x = y))) H
end KP
namespace KP
open PySem PySem.Spec PyProof.Rows L2
open PySem.W (Datum Tup DatumOrd)
def lotsOf (types : List (Str × TInt)) : List (List Int) := types.map fun p => p.2.items
def takersN (lots : List (List Int)) (k : Int) : List Nat := (List.range lots.length).filter fun i => decide (k ∈ lots.getD i [])
def nI (ns : List Nat) : List Int := ns.map fun i => ((i : Nat) : Int)
def takersI (lots : List (List Int)) (k : Int) : List Int := nI (takersN lots k)
def spAcc (K : PySem.W.Frag) (C : Addr) : Sp := fun vs H Q _ => ∃ (t : Addr) (kn : List Str) (types : List (Str × TInt)) (r : Nat) (p : Str × TInt), vs = [.ref t, .int r] ∧ TabR K C H t kn types ∧ types[r]? = some p ∧ ∀ v, Is K H v p.2 → Q v H
def spTak (K : PySem.W.Frag) (C : Addr) : Sp := fun vs H Q _ => ∃ (t : Addr) (kn : List Str) (types : List (Str × TInt)) (k : Int), vs = [.ref t, .int k] ∧ TabR K C H t kn types ∧ ∀ v H', Kp [] H H' → Is K H' v (Tup.mk (takersI (lotsOf types) k)) → Q v H'
def spAllTak (K : PySem.W.Frag) (C : Addr) : Sp := fun vs H Q _ => ∃ (t : Addr) (kn : List Str) (types : List (Str × TInt)), vs = [.ref t] ∧ TabR K C H t kn types ∧ ∀ v H', Kp [] H H' → Is K H' v (Tup.mk (tups ((List.range kn.length).map fun k => takersI (lotsOf types) (k : Nat)))) → Q v H'
def spPutAt (K : PySem.W.Frag) : Sp := fun vs H Q _ => ∃ (v : V) (xs : List Int) (i : Nat) (z : Int), vs = [v, .int i, .int z] ∧ Is K H v (Tup.mk xs) ∧ i < xs.length ∧ xs.length ≤ 1000 ∧ ∀ w H', Kp [] H H' → Is K H' w (Tup.mk (xs.set i z)) → Q w H'
def spTaken (K : PySem.W.Frag) : Sp := fun vs H Q _ => ∃ (v : V) (xs : List Int) (i : Nat) (z : Int), vs = [v, .int i] ∧ Is K H v (Tup.mk xs) ∧ xs[i]? = some z ∧ z ≠ 0 ∧ xs.length ≤ 1000 ∧ ∀ w H', Kp [] H H' → Is K H' w (Tup.mk (xs.set i (z - 1))) → Q w H'
/-- how often k is handed out -/
def used (found : List (Option Int)) (k : Int) : Nat := found.countP fun z => decide (z = some k)
def leftOf (stock : List Int) (found : List (Option Int)) : List Int := stock.mapIdx fun i z => z - used found i
def spLeftSt (K : PySem.W.Frag) : Sp := fun vs H Q _ => ∃ (v u : V) (stock : List Int) (found : List (Option Int)), vs = [v, u] ∧ Is K H v (Tup.mk stock) ∧ Is K H u (Tup.mk found) ∧ stock.length ≤ 1000 ∧ ∀ w H', Kp [] H H' → Is K H' w (Tup.mk (leftOf stock found)) → Q w H'
theorem set_eq_cat {α : Type} {xs : List α} {i : Nat} {z : α} (h : i < xs.length) : xs.take i ++ [z] ++ xs.drop (i + 1) = xs.set i z := by
  rw [List.set_eq_take_append_cons_drop, if_pos h, List.append_assoc]
  rfl
theorem range_map_snoc {α : Type} (f : Nat → α) (i : Nat) : (List.range (i + 1)).map f = (List.range i).map f ++ [f i] := by
  rw [List.range_succ, List.map_append]; rfl
theorem nI_len (ns : List Nat) : (nI ns).length = ns.length := by simp [nI]
/-! ### the rule of fewest takers -/
def cntT (lots : List (List Int)) (k : Int) : Nat := (takersN lots k).length
structure RuleR (lots : List (List Int)) (left : List Int) (r : Nat) (o : Option Int) : Prop where
  no : o = none → ∀ k ∈ lots.getD r [], left.getD k.toNat 0 ≤ 0
  yes : ∀ k, o = some k → k ∈ lots.getD r [] ∧ 0 < left.getD k.toNat 0 ∧ ∀ j ∈ lots.getD r [], 0 < left.getD j.toNat 0 → cntT lots k < cntT lots j ∨ (cntT lots k = cntT lots j ∧ k ≤ j)
theorem RuleR.unique {lots : List (List Int)} {left : List Int} {r : Nat} {o p : Option Int} (h : RuleR lots left r o) (g : RuleR lots left r p) : o = p := by
  cases o with
  | none =>
    cases p with
    | none => rfl
    | some k =>
      obtain ⟨h1, h2, _⟩ := g.yes k rfl
      have := h.no rfl k h1
      omega
  | some k =>
    obtain ⟨h1, h2, h3⟩ := h.yes k rfl
    cases p with
    | none =>
      have := g.no rfl k h1
      omega
    | some j =>
      obtain ⟨g1, g2, g3⟩ := g.yes j rfl
      have a := h3 j g1 g2
      have b := g3 k h1 h2
      have : k = j := by omega
      rw [this]
def after (left : List Int) (o : Option Int) : List Int := match o with
  | none => left
  | some k => left.set k.toNat (left.getD k.toNat 0 - 1)
inductive RunR (lots : List (List Int)) (stock : List Int) : List Nat → List (Option Int) → List Int → Prop
  | nil : RunR lots stock [] [] stock
  | snoc {row : List Nat} {found : List (Option Int)} {left : List Int} {r : Nat} {o : Option Int} (h : RunR lots stock row found left) (g : RuleR lots left r o) : RunR lots stock (row ++ [r]) (found ++ [o]) (after left o)
theorem RunR.unique {lots : List (List Int)} {stock left left' : List Int} {row : List Nat} {found found' : List (Option Int)} (h : RunR lots stock row found left) (g : RunR lots stock row found' left') : found = found' ∧ left = left' := by
  induction h generalizing found' left' with
  | nil =>
    generalize e : ([] : List Nat) = row at g
    cases g with
    | nil => exact ⟨rfl, rfl⟩
    | snoc _ _ => simp at e
  | @snoc row found left r o h hr ih =>
    generalize e : row ++ [r] = row2 at g
    cases g with
    | nil => simp at e
    | @snoc row' found2 left2 r' o' g gr =>
      obtain ⟨e1, e2⟩ := List.append_inj' e rfl
      have e2 : r = r' := by simpa using e2
      subst e1 e2
      obtain ⟨e3, e4⟩ := ih g
      subst e3 e4
      have := hr.unique gr
      subst this
      exact ⟨rfl, rfl⟩
theorem RunR.len {lots : List (List Int)} {stock left : List Int} {row : List Nat} {found : List (Option Int)} (h : RunR lots stock row found left) : found.length = row.length ∧ left.length = stock.length := by
  induction h with
  | nil => exact ⟨rfl, rfl⟩
  | @snoc row found left r o _ _ ih =>
    refine ⟨by simp [ih.1], ?_⟩
    cases o <;> simp [after, ih.2]
theorem used_snoc (found : List (Option Int)) (o : Option Int) (k : Int) : used (found ++ [o]) k = used found k + if o = some k then 1 else 0 := by
  unfold used
  rw [List.countP_append, List.countP_singleton]
  simp
/-- what is left is what was there less what is handed out -/
theorem RunR.left {lots : List (List Int)} {stock left : List Int} {row : List Nat} {found : List (Option Int)} (h : RunR lots stock row found left) (hk : ∀ r k, k ∈ lots.getD r [] → 0 ≤ k) : leftOf stock found = left := by
  induction h with
  | nil =>
    unfold leftOf used
    refine List.ext_getElem? fun i => ?_
    rw [List.getElem?_mapIdx]
    simp
  | @snoc row found left r o h hr ih =>
    refine List.ext_getElem? fun i => ?_
    have hi : (leftOf stock found)[i]? = left[i]? := by rw [ih]
    unfold leftOf at hi ⊢
    rw [List.getElem?_mapIdx] at hi ⊢
    cases o with
    | none =>
      show _ = left[i]?
      rw [← hi]
      cases stock[i]? with
      | none => rfl
      | some z => simp [used_snoc]
    | some k =>
      have hk0 := hk r k (hr.yes k rfl).1
      show _ = (left.set k.toNat (left.getD k.toNat 0 - 1))[i]?
      by_cases e : i = k.toNat
      · subst e
        cases hs : stock[k.toNat]? with
        | none =>
          rw [hs] at hi
          rw [List.getElem?_eq_none_iff.mpr]
          · rfl
          · rw [List.length_set]
            exact List.getElem?_eq_none_iff.mp hi.symm
        | some z =>
          rw [hs] at hi
          simp only [Option.map_some] at hi ⊢
          have hl := (List.getElem?_eq_some_iff.mp hi.symm).1
          rw [List.getElem?_set_self hl, List.getD_eq_getElem?_getD, ← hi, used_snoc, if_pos (by rw [Int.toNat_of_nonneg hk0])]
          simp only [Option.getD_some]
          congr 1
          omega
      · rw [List.getElem?_set_ne (fun q => e q.symm), ← hi]
        cases stock[i]? with
        | none => rfl
        | some z =>
          simp only [Option.map_some]
          rw [used_snoc, if_neg (by intro q; apply e; have := Option.some.inj q; omega)]
          rfl
end KP
namespace KP
open PySem PySem.Spec PyProof.Rows L2
open PySem.W (Datum Tup DatumOrd)
/-! Tuples of which the object itself is known: their methods can be called. -/
def PT (o : Obj) : Prop := o.cls = .type "tuple" ∧ o.dict = none
def PTup (H : Hp) (v : V) : Prop := ∃ (a : Addr) (o : Obj) (xs : List V), v = .ref a ∧ H a = some (.frz o (.tup xs)) ∧ PT o
theorem PTup.kp {M : List Addr} {H H' : Hp} {v : V} (h : PTup H v) (e : Kp M H H') : PTup H' v := by
  obtain ⟨a, o, xs, h1, h2, h3⟩ := h
  exact ⟨a, o, xs, h1, e.frz _ _ _ h2, h3⟩
def rTupF (K : PySem.W.Frag) : List V → Hp → VK → Prop := fun xs H Q => ∃ p ys, xs = [.ref p] ∧ SqL K H p ys ∧ ∀ l o, H l = none → PT o → Q (.ref l) (upd H l (.frz o (.tup ys)))
theorem cq_tupleF {X : Cx} : CallR X (.type "tuple") (rTupF X.K) := by
  intro pins s σ H xs us Q I r h
  obtain ⟨p, ys, rfl, hq, q⟩ := h
  rw [Vals.ref1 r]
  obtain ⟨its, r', pl, hz⟩ := I.list hq
  have hlen := r'.length
  refine call_tuple_list pl.isList (fun h' kp => ?_) (by rw [List.size_toArray]; omega)
  have I1 : Inv X pins σ H { s with heap := h' } := I.kept (t' := s.toks) kp
  exact ⟨.ref h'.objs.size, upd H h'.objs.size (.frz _ (.tup ys)), I1.laid (t' := s.toks) (a := h'.objs.size) (o := .frz { cls := .type "tuple", data := .seq its.toArray } (.tup ys)) (fun b ob e => Heap.get?_push_of_some _ e) (Nat.le_refl _) ⟨Heap.get?_push_size _ rfl, hz, its, r', IsTup.new _ _⟩, rfl, q _ _ (I1.hok.fresh (Nat.le_refl _)) ⟨rfl, rfl⟩⟩
theorem cq_tupleFK {X : Cx} (K : PySem.W.Frag) (h : X.K = K) : CallR X (.type "tuple") (rTupF K) := h ▸ cq_tupleF
def tBMt (r : V → List V → Hp → VK → Prop) (to : TE) (t : TA) : TE := fun σ H Q => to σ H fun x H1 => PTup H1 x ∧ t σ H1 fun xs H2 => r x xs H2 Q
section
variable {X : Cx} {o e : Expr} {es : List Expr} {to : TE} {t : TA} {name : Str} {apos cpos : Pos} {id : String} {r : V → List V → Hp → VK → Prop}
theorem pe_bmt (slot : Slot "tuple" name id) (hty : typeOf (.builtin id) = pure (.type "method_descriptor")) (hm : MtR X id r) (ho : PE X o to) (ha : PA X (e :: es) t)
    (hbase : attributeBase o name X.env (eval o X.env) = eval o X.env := by rfl)
    (hfew : ((backTo cpos (starEach (e :: es) X.env)).all (fun x => !x.1) && (backToKw cpos (keywordEach [] X.env)).all (fun x => x.1.isSome)
      && decide ((e :: es).length + ([] : List Keyword).length + (if ([] : List Keyword).isEmpty then 0 else 1) < 30)) = true := by rfl)
    (hline : (apos.endLine == cpos.line) = true := by rfl) (hs : starEach (e :: es) X.env = (false, eval e X.env) :: starEach es X.env := by rfl) (hplain : (backTo cpos (starEach es X.env)).any (·.1) = false := by rfl) :
    PE X (.Call (.Attribute o name apos) (e :: es) [] cpos) (tBMt r to t) := by
  refine ⟨fun pins s σ H Q I h => ?_⟩
  refine wpAny_Call_method_late hbase hfew hline rfl (thn (ho.run pins s σ H _ I h) fun v s1 ⟨x, H1, I1, r1, ty, q1⟩ => ?_)
  obtain ⟨a, ob, xs, rfl, hob, hc, hd⟩ := ty
  obtain rfl : v = Value.ref a := r1
  have hg : s1.heap.get? a = some ob := (I1.hok a _ hob).1
  refine ⟨"tuple", id, PySem.F.plainAttrs_tuple, slot, hty, ⟨ob, hg, hc⟩, fun a' e' => ?_, ?_⟩
  · cases e'
    exact ⟨ob, hg, hd⟩
  have hA := ha.run cpos pins s1 σ H1 _ I1 q1
  rw [hs] at hA ⊢
  refine Calls.callWith_builtin (by show (false || (backTo cpos (starEach es X.env)).any (·.1)) = false; rw [hplain]; rfl) (Calls.evalArgs_plain ?_)
  exact thn hA fun us s2 ⟨vs, H2, I2, r2, q2⟩ => hm pins s2 σ H2 (.ref a) vs _ us Q I2 rfl r2 q2
end
section
variable {K : PySem.W.Frag} {σ : S2} {H : Hp} {Q : VK} {to : TE} {t : TA} {v : V} {α : Type} [DecidableEq α] [Datum α] [TupD α]
theorem w_bmt {r : V → List V → Hp → VK → Prop} (q : to σ H fun x H1 => PTup H1 x ∧ t σ H1 fun xs H2 => r x xs H2 Q) : tBMt r to t σ H Q := q
theorem frz_kp {M : List Addr} {p : Addr} {o : Obj} {vs : List V} (hp : H p = none) : Kp M H (upd H p (.frz o (.tup vs))) := Kp.new hp
/-- tuple(l), the new object known -/
theorem w_tupF {vs : List V} {p : Addr} {xs : List α} (h : H p = some (.lst vs)) (hv : IsAll K H vs xs) (q : ∀ (w : V) (H' : Hp), Kp [] H H' → Is K H' w (Tup.mk xs) → PTup H' w → Q w H') : rTupF K [.ref p] H Q :=
  ⟨p, vs, rfl, SqL.of h, fun l o hl po => q _ _ (Kp.new hl) (is_tup (.inl (.inr ⟨o, upd_same⟩)) (hv.kp (Kp.new (M := []) hl))) ⟨l, o, vs, rfl, upd_same, po⟩⟩
/-- t.count(x) -/
theorem w_count {a : α} {xs : List α} {y : V} (h : Is K H v (Tup.mk xs)) (g : Is K H y a) (d : Datum.depth α ≤ 60) (q : Q (.int ((xs.countP fun z => decide (z = a) : Nat) : Int)) H) : rCountD K v [y] H Q := by
  obtain ⟨p, vs, rfl, hp, hpa⟩ := h.tupm
  exact ⟨α, _, _, a, xs, p, vs, y, rfl, rfl, hp, hpa, g, d, q⟩
end
def spLeftStF (K : PySem.W.Frag) : Sp := fun vs H Q _ => ∃ (v u : V) (stock : List Int) (found : List (Option Int)), vs = [v, u] ∧ Is K H v (Tup.mk stock) ∧ Is K H u (Tup.mk found) ∧ PTup H u ∧ stock.length ≤ 1000 ∧ ∀ w H', Kp [] H H' → Is K H' w (Tup.mk (leftOf stock found)) → Q w H'
end KP
namespace KP
open PySem PySem.Spec PyProof.Rows L2
open PySem.W (Datum Tup DatumOrd)
def takT (n : Nat) (types : List (Str × TInt)) : List TInt := tups ((List.range n).map fun k => takersI (lotsOf types) (k : Nat))
def spFew (K : PySem.W.Frag) (C : Addr) : Sp := fun vs H Q _ => ∃ (vl vk : V) (t : Addr) (kn : List Str) (types : List (Str × TInt)) (stock : List Int) (r : Nat), vs = [vl, .ref t, vk, .int r] ∧ Is K H vl (Tup.mk (takT kn.length types)) ∧ TabR K C H t kn types ∧ Is K H vk (Tup.mk stock) ∧ stock.length = kn.length ∧ r < types.length ∧
  ∀ v H' o, Kp [] H H' → RuleR (lotsOf types) stock r o → Is K H' v o → Q v H'
def spFewT (K : PySem.W.Frag) (C : Addr) : Sp := fun vs H Q _ => ∃ (vk : V) (t : Addr) (kn : List Str) (types : List (Str × TInt)) (stock : List Int) (r : Nat), vs = [.ref t, vk, .int r] ∧ TabR K C H t kn types ∧ Is K H vk (Tup.mk stock) ∧ stock.length = kn.length ∧ r < types.length ∧
  ∀ v H' o, Kp [] H H' → RuleR (lotsOf types) stock r o → Is K H' v o → Q v H'
def spServed (K : PySem.W.Frag) (C : Addr) : Sp := fun vs H Q _ => ∃ (vk vr : V) (t : Addr) (kn : List Str) (types : List (Str × TInt)) (stock : List Int) (row : List Nat), vs = [.ref t, vk, vr] ∧ TabR K C H t kn types ∧ Is K H vk (Tup.mk stock) ∧ stock.length = kn.length ∧ Is K H vr (Tup.mk (nI row)) ∧ (∀ r ∈ row, r < types.length) ∧ row.length ≤ 100000 ∧
  ∀ v H' found left, Kp [] H H' → RunR (lotsOf types) stock row found left → Is K H' v (Tup.mk found) → PTup H' v → Q v H'
def spLeftR (K : PySem.W.Frag) (C : Addr) : Sp := fun vs H Q _ => ∃ (vk vr : V) (t : Addr) (kn : List Str) (types : List (Str × TInt)) (stock : List Int) (row : List Nat), vs = [.ref t, vk, vr] ∧ TabR K C H t kn types ∧ Is K H vk (Tup.mk stock) ∧ stock.length = kn.length ∧ Is K H vr (Tup.mk (nI row)) ∧ (∀ r ∈ row, r < types.length) ∧ row.length ≤ 100000 ∧
  ∀ v H' found left, Kp [] H H' → RunR (lotsOf types) stock row found left → Is K H' v (Tup.mk left) → Q v H'
/-- the kinds at hand, with their counts -/
def someOf (lots : List (List Int)) (stock : List Int) (lot : List Int) : List (Int × Int) := (lot.filter fun k => decide (0 < stock.getD k.toNat 0)).map fun k => (((cntT lots k : Nat) : Int), k)
theorem someOf_snoc (lots : List (List Int)) (stock lot : List Int) (k : Int) : someOf lots stock (lot ++ [k]) = if 0 < stock.getD k.toNat 0 then someOf lots stock lot ++ [(((cntT lots k : Nat) : Int), k)] else someOf lots stock lot := by
  unfold someOf
  rw [List.filter_append]
  by_cases h : 0 < stock.getD k.toNat 0
  · rw [if_pos h]
    simp only [List.filter_cons, List.filter_nil, decide_eq_true h, if_true, List.map_append]
    rfl
  · rw [if_neg h]
    simp only [List.filter_cons, List.filter_nil, decide_eq_false h]
    simp
theorem rule_none {lots : List (List Int)} {stock : List Int} {r : Nat} (h : someOf lots stock (lots.getD r []) = []) : RuleR lots stock r none := by
  refine ⟨fun _ k hk => ?_, (fun k e => by cases e)⟩
  by_cases c : 0 < stock.getD k.toNat 0
  · have : (((cntT lots k : Nat) : Int), k) ∈ someOf lots stock (lots.getD r []) := List.mem_map.mpr ⟨k, List.mem_filter.mpr ⟨hk, decide_eq_true c⟩, rfl⟩
    rw [h] at this
    cases this
  · omega
theorem rule_some {lots : List (List Int)} {stock : List Int} {r : Nat} {m : Int × Int} (h : m ∈ someOf lots stock (lots.getD r [])) (g : ∀ y ∈ someOf lots stock (lots.getD r []), m.1 < y.1 ∨ (m.1 = y.1 ∧ m.2 ≤ y.2)) : RuleR lots stock r (some m.2) := by
  obtain ⟨k, hk, e⟩ := List.mem_map.mp h
  obtain ⟨h1, h2⟩ := List.mem_filter.mp hk
  subst e
  refine ⟨(fun e => by cases e), fun k' e => ?_⟩
  cases e
  refine ⟨h1, of_decide_eq_true h2, fun j hj hj0 => ?_⟩
  have := g (((cntT lots j : Nat) : Int), j) (List.mem_map.mpr ⟨j, List.mem_filter.mpr ⟨hj, decide_eq_true hj0⟩, rfl⟩)
  have this : ((cntT lots k : Nat) : Int) < ((cntT lots j : Nat) : Int) ∨ ((cntT lots k : Nat) : Int) = ((cntT lots j : Nat) : Int) ∧ k ≤ j := this
  show cntT lots k < cntT lots j ∨ cntT lots k = cntT lots j ∧ k ≤ j
  omega
theorem asc_len : ∀ (l : List Int) (b n : Int), (∀ x ∈ l, b ≤ x ∧ x < n) → l.Pairwise (· < ·) → (l.length : Int) ≤ max (n - b) 0
  | [], b, n, _, _ => by simp; omega
  | y :: ys, b, n, h1, h2 => by
    have hy := h1 y (List.mem_cons_self ..)
    have := asc_len ys (y + 1) n (fun x hx => ⟨by have := (List.pairwise_cons.mp h2).1 x hx; omega, (h1 x (List.mem_cons_of_mem _ hx)).2⟩) (List.pairwise_cons.mp h2).2
    rw [List.length_cons]
    omega
theorem listB_len {xs : List Int} {n : Nat} (h : listB xs n = true) : xs.length ≤ n := by
  have h := listB_iff.mp h
  have := asc_len xs 0 n h.1 h.2
  omega
theorem lotsOf_get {types : List (Str × TInt)} {r : Nat} {p : Str × TInt} (h : types[r]? = some p) : (lotsOf types).getD r [] = p.2.items := by
  unfold lotsOf
  rw [List.getD_eq_getElem?_getD, List.getElem?_map, h]
  rfl
theorem lot_rng {kn : List Str} {types : List (Str × TInt)} (ok : TabOk kn types) {r : Nat} {k : Int} (h : k ∈ (lotsOf types).getD r []) : 0 ≤ k ∧ k < kn.length := by
  cases e : types[r]? with
  | none =>
    unfold lotsOf at h
    rw [List.getD_eq_getElem?_getD, List.getElem?_map, e] at h
    cases h
  | some p =>
    rw [lotsOf_get e] at h
    exact (listB_iff.mp (ok.tl p (List.mem_of_getElem? e))).1 k h
end KP
/-! Servings as sums: a serving's state, closed sets of types, and why nothing more can be served. -/
namespace FL
open Classical
def sumR : Nat → (Nat → Int) → Int
  | 0, _ => 0
  | n + 1, f => sumR n f + f n
theorem sumR_congr : ∀ (n : Nat) {f g : Nat → Int}, (∀ i, i < n → f i = g i) → sumR n f = sumR n g
  | 0, _, _, _ => rfl
  | n + 1, f, g, h => by
    show sumR n f + f n = sumR n g + g n
    rw [sumR_congr n fun i hi => h i (by omega), h n (by omega)]
theorem sumR_le : ∀ (n : Nat) {f g : Nat → Int}, (∀ i, i < n → f i ≤ g i) → sumR n f ≤ sumR n g
  | 0, _, _, _ => Int.le_refl _
  | n + 1, f, g, h => by
    have h1 := sumR_le n fun i hi => h i (by omega)
    have h2 := h n (by omega)
    show sumR n f + f n ≤ sumR n g + g n
    omega
theorem sumR_lt : ∀ (n : Nat) {f g : Nat → Int} {r : Nat}, (∀ i, i < n → f i ≤ g i) → r < n → f r < g r → sumR n f < sumR n g
  | 0, _, _, _, _, hr, _ => by omega
  | n + 1, f, g, r, h, hr, hl => by
    show sumR n f + f n < sumR n g + g n
    have h2 := h n (by omega)
    by_cases e : r = n
    · subst e
      have h1 := sumR_le r fun i hi => h i (by omega)
      omega
    · have h1 := sumR_lt n (fun i hi => h i (by omega)) (by omega) hl
      omega
theorem sumR_zero (n : Nat) : sumR n (fun _ => 0) = 0 := by
  induction n with
  | zero => rfl
  | succ n ih => show sumR n _ + 0 = 0; omega
theorem sumR_add : ∀ (n : Nat) (f g : Nat → Int), sumR n (fun i => f i + g i) = sumR n f + sumR n g
  | 0, _, _ => rfl
  | n + 1, f, g => by
    show sumR n (fun i => f i + g i) + (f n + g n) = sumR n f + f n + (sumR n g + g n)
    rw [sumR_add n f g]; omega
theorem sumR_comm : ∀ (m n : Nat) (f : Nat → Nat → Int), sumR m (fun u => sumR n (fun k => f u k)) = sumR n (fun k => sumR m (fun u => f u k))
  | 0, n, f => (sumR_zero n).symm
  | m + 1, n, f => by
    show sumR m (fun u => sumR n (fun k => f u k)) + sumR n (fun k => f m k) = sumR n (fun k => sumR m (fun u => f u k) + f m k)
    rw [sumR_add, sumR_comm m n f]
def e1 (j : Nat) (d : Int) (i : Nat) : Int := if i = j then d else 0
theorem e1_self (j : Nat) (d : Int) : e1 j d j = d := if_pos rfl
theorem e1_ne {i j : Nat} (h : i ≠ j) (d : Int) : e1 j d i = 0 := if_neg h
theorem sumR_e1 : ∀ (n j : Nat) (d : Int), sumR n (e1 j d) = if j < n then d else 0
  | 0, j, d => rfl
  | n + 1, j, d => by
    show sumR n (e1 j d) + e1 j d n = _
    rw [sumR_e1 n j d]
    unfold e1
    by_cases h : n = j
    · subst h; simp
    · rw [if_neg h]
      by_cases h1 : j < n
      · rw [if_pos h1, if_pos (by omega)]; omega
      · rw [if_neg h1, if_neg (by omega)]; omega
theorem sumR_if (n : Nat) (P : Prop) (f : Nat → Int) : sumR n (fun k => if P then f k else 0) = if P then sumR n f else 0 := by
  by_cases h : P
  · simp only [if_pos h]
  · simp only [if_neg h]; exact sumR_zero n
/-- a serving: who holds how many of what, what is left, how many are served of each type -/
structure SOk (m n : Nat) (acc : Nat → Nat → Prop) (stock : Nat → Int) (g : Nat → Nat → Int) (left c : Nat → Int) : Prop where
  g0 : ∀ u k, u < m → k < n → 0 ≤ g u k
  gl : ∀ u k, u < m → k < n → 0 < g u k → acc u k
  l0 : ∀ k, k < n → 0 ≤ left k
  cons : ∀ k, k < n → left k + sumR m (fun u => g u k) = stock k
  cnt : ∀ u, u < m → sumR n (fun k => g u k) = c u
/-- all that the types of T accept is gone, and only T holds it -/
def Closed (m n : Nat) (acc : Nat → Nat → Prop) (g : Nat → Nat → Int) (left : Nat → Int) (T : Nat → Prop) : Prop :=
  ∀ u k, u < m → k < n → T u → acc u k → left k = 0 ∧ ∀ v, v < m → 0 < g v k → T v
section
variable {m n : Nat} {acc : Nat → Nat → Prop} {stock : Nat → Int} {g g' : Nat → Nat → Int} {left left' c c' : Nat → Int} {T : Nat → Prop}
theorem tsum (h : SOk m n acc stock g left c) : sumR m (fun u => if T u then c u else 0) = sumR n (fun k => sumR m (fun u => if T u then g u k else 0)) := by
  rw [← sumR_comm]
  exact sumR_congr m fun u hu => by rw [sumR_if, h.cnt u hu]
theorem hall (h : SOk m n acc stock g left c) (hc : Closed m n acc g left T) (h' : SOk m n acc stock g' left' c') : sumR m (fun u => if T u then c' u else 0) ≤ sumR m (fun u => if T u then c u else 0) := by
  rw [tsum h, tsum h']
  refine sumR_le n fun k hk => ?_
  by_cases hN : ∃ u, u < m ∧ T u ∧ acc u k
  · obtain ⟨u, hu, hT, ha⟩ := hN
    obtain ⟨z, hz⟩ := hc u k hu hk hT ha
    have a1 : sumR m (fun u => if T u then g' u k else 0) ≤ sumR m (fun u => g' u k) := sumR_le m fun v hv => by
      have := h'.g0 v k hv hk
      by_cases t : T v
      · rw [if_pos t]; exact Int.le_refl _
      · rw [if_neg t]; exact this
    have a2 : sumR m (fun u => if T u then g u k else 0) = sumR m (fun u => g u k) := sumR_congr m fun v hv => by
      by_cases t : T v
      · rw [if_pos t]
      · rw [if_neg t]
        have h0 := h.g0 v k hv hk
        by_cases p : 0 < g v k
        · exact absurd (hz v hv p) t
        · omega
    have b1 := h.cons k hk
    have b2 := h'.cons k hk
    have b3 := h'.l0 k hk
    omega
  · have a1 : sumR m (fun u => if T u then g' u k else 0) = sumR m (fun _ => 0) := sumR_congr m fun v hv => by
      by_cases t : T v
      · rw [if_pos t]
        have h0 := h'.g0 v k hv hk
        by_cases p : 0 < g' v k
        · exact absurd ⟨v, hv, t, h'.gl v k hv hk p⟩ hN
        · omega
      · rw [if_neg t]
    have a2 : sumR m (fun _ => 0) ≤ sumR m (fun u => if T u then g u k else 0) := sumR_le m fun v hv => by
      have h0 := h.g0 v k hv hk
      by_cases t : T v
      · rw [if_pos t]; exact h0
      · rw [if_neg t]; exact Int.le_refl _
    omega
/-- no serving of at least so many of each type serves more of r -/
def Full (m n : Nat) (acc : Nat → Nat → Prop) (stock c : Nat → Int) (r : Nat) : Prop := ∀ g' left' c', SOk m n acc stock g' left' c' → (∀ u, u < m → c u ≤ c' u) → c' r ≤ c r
theorem full_of {r : Nat} (h : SOk m n acc stock g left c) (hc : Closed m n acc g left T) (hr : r < m) (ht : T r) : Full m n acc stock c r := fun g' left' c' h' hle => by
  refine Int.not_lt.mp fun hlt => ?_
  have a := hall h hc h'
  have b : sumR m (fun u => if T u then c u else 0) < sumR m (fun u => if T u then c' u else 0) := sumR_lt m (r := r) (fun u hu => by
    by_cases t : T u
    · rw [if_pos t, if_pos t]; exact hle u hu
    · rw [if_neg t, if_neg t]; exact Int.le_refl _) hr (by rw [if_pos ht, if_pos ht]; exact hlt)
  omega
theorem Full.mono {r : Nat} (h : Full m n acc stock c r) (hle : ∀ u, u < m → c u ≤ c' u) (e : c' r = c r) : Full m n acc stock c' r := fun g' left' d h' hd => by
  rw [e]
  exact h g' left' d h' fun u hu => Int.le_trans (hle u hu) (hd u hu)
/-- one more of r cannot be served -/
theorem Full.no {r : Nat} (h : Full m n acc stock c r) (h' : SOk m n acc stock g' left' (fun u => c u + e1 r 1 u)) : False := by
  have := h _ _ _ h' fun u hu => by
    unfold e1
    by_cases q : u = r
    · rw [if_pos q]; omega
    · rw [if_neg q]; omega
  rw [e1_self] at this
  omega
/-! ### steps along a way -/
theorem SOk.first {r k : Nat} (h : SOk m n acc stock g left c) (hr : r < m) (hk : k < n) (ha : acc r k) : SOk m n acc (fun j => stock j + e1 k 1 j) (fun u j => g u j + if u = r then e1 k 1 j else 0) left (fun u => c u + e1 r 1 u) where
  g0 u j hu hj := by
    have := h.g0 u j hu hj
    unfold e1
    by_cases a : u = r <;> by_cases b : j = k <;> simp [a, b] <;> (try (subst a)) <;> (try (subst b)) <;> omega
  gl u j hu hj hp := by
    by_cases a : u = r ∧ j = k
    · rw [a.1, a.2]; exact ha
    · refine h.gl u j hu hj ?_
      have : (if u = r then e1 k 1 j else 0) = 0 := by
        by_cases q : u = r
        · rw [if_pos q, e1_ne fun w => a ⟨q, w⟩]
        · rw [if_neg q]
      omega
  l0 := h.l0
  cons j hj := by
    rw [sumR_add]
    have := h.cons j hj
    have e : sumR m (fun u => if u = r then e1 k 1 j else 0) = e1 k 1 j := by
      have := sumR_e1 m r (e1 k 1 j)
      rw [if_pos hr] at this
      exact this
    omega
  cnt u hu := by
    rw [sumR_add, h.cnt u hu]
    by_cases q : u = r
    · simp only [if_pos q]
      rw [sumR_e1, if_pos hk, q, e1_self]
    · simp only [if_neg q]
      rw [sumR_zero, e1_ne q]
theorem SOk.move {r k k' : Nat} (h : SOk m n acc (fun j => stock j + e1 k 1 j) g left c) (hr : r < m) (hk : k < n) (hk' : k' < n) (hp : 0 < g r k) (ha : acc r k') : SOk m n acc (fun j => stock j + e1 k' 1 j) (fun u j => g u j + if u = r then (e1 k (-1) j + e1 k' 1 j) else 0) left c where
  g0 u j hu hj := by
    have := h.g0 u j hu hj
    by_cases q : u = r
    · rw [if_pos q]
      unfold e1
      by_cases a : j = k
      · rw [if_pos a, a, q]
        by_cases b : k = k'
        · rw [if_pos b]; omega
        · rw [if_neg b]; omega
      · rw [if_neg a]
        by_cases b : j = k'
        · rw [if_pos b]; omega
        · rw [if_neg b]; omega
    · rw [if_neg q]; omega
  gl u j hu hj hpos := by
    by_cases q : u = r
    · by_cases b : j = k'
      · rw [q, b]; exact ha
      · refine h.gl u j hu hj ?_
        rw [if_pos q, e1_ne b] at hpos
        unfold e1 at hpos
        by_cases a : j = k
        · rw [if_pos a] at hpos; omega
        · rw [if_neg a] at hpos; omega
    · rw [if_neg q] at hpos
      exact h.gl u j hu hj (by omega)
  l0 := h.l0
  cons j hj := by
    rw [sumR_add]
    have := h.cons j hj
    have e : sumR m (fun u => if u = r then (e1 k (-1) j + e1 k' 1 j) else 0) = e1 k (-1) j + e1 k' 1 j := by
      have := sumR_e1 m r (e1 k (-1) j + e1 k' 1 j)
      rw [if_pos hr] at this
      exact this
    have e3 : e1 k (-1) j = - e1 k 1 j := by unfold e1; by_cases a : j = k <;> simp [a]
    omega
  cnt u hu := by
    rw [sumR_add, h.cnt u hu]
    by_cases q : u = r
    · simp only [if_pos q]
      rw [sumR_add, sumR_e1, sumR_e1, if_pos hk, if_pos hk']; omega
    · simp only [if_neg q]
      rw [sumR_zero]; omega
theorem SOk.last {k : Nat} (h : SOk m n acc (fun j => stock j + e1 k 1 j) g left c) (hk : k < n) (hp : 0 < left k) : SOk m n acc stock g (fun j => left j + e1 k (-1) j) c where
  g0 := h.g0
  gl := h.gl
  l0 j hj := by
    have := h.l0 j hj
    unfold e1
    by_cases a : j = k
    · rw [if_pos a, a]; omega
    · rw [if_neg a]; omega
  cons j hj := by
    have := h.cons j hj
    have e3 : e1 k (-1) j = - e1 k 1 j := by unfold e1; by_cases a : j = k <;> simp [a]
    omega
  cnt := h.cnt
end
theorem SOk.ext {m n : Nat} {acc : Nat → Nat → Prop} {stock stock' : Nat → Int} {g g' : Nat → Nat → Int} {left left' c c' : Nat → Int} (h : SOk m n acc stock g left c) (e1 : ∀ k, k < n → stock' k = stock k) (e2 : ∀ u k, u < m → k < n → g' u k = g u k) (e3 : ∀ k, k < n → left' k = left k) (e4 : ∀ u, u < m → c' u = c u) : SOk m n acc stock' g' left' c' where
  g0 u k hu hk := by rw [e2 u k hu hk]; exact h.g0 u k hu hk
  gl u k hu hk hp := h.gl u k hu hk (by rw [← e2 u k hu hk]; exact hp)
  l0 k hk := by rw [e3 k hk]; exact h.l0 k hk
  cons k hk := by
    rw [e3 k hk, e1 k hk, sumR_congr m fun u hu => e2 u k hu hk]
    exact h.cons k hk
  cnt u hu := by
    rw [e4 u hu, sumR_congr n fun k hk => e2 u k hu hk]
    exact h.cnt u hu
end FL
namespace KP
open PySem PySem.Spec PyProof.Rows L2
open FL
def accL (lots : List (List Int)) (u k : Nat) : Prop := (k : Int) ∈ lots.getD u []
def gD (xs : List Int) (k : Nat) : Int := xs.getD k 0
theorem gD_set {xs : List Int} {i j : Nat} {z : Int} (h : i < xs.length) : gD (xs.set i z) j = if j = i then z else gD xs j := by
  unfold gD
  rw [List.getD_eq_getElem?_getD, List.getD_eq_getElem?_getD]
  by_cases e : j = i
  · subst e; rw [List.getElem?_set_self h, if_pos rfl]; rfl
  · rw [List.getElem?_set_ne (fun q => e q.symm), if_neg e]
theorem gD_get {xs : List Int} {i : Nat} {z : Int} (h : xs[i]? = some z) : gD xs i = z := by
  unfold gD; rw [List.getD_eq_getElem?_getD, h]; rfl
def gOf (row : List Nat) (found : List (Option Int)) (u k : Nat) : Int := ((row.zip found).countP fun p => decide (p.1 = u ∧ p.2 = some (k : Int)) : Nat)
def cOf (row : List Nat) (found : List (Option Int)) (u : Nat) : Int := ((row.zip found).countP fun p => decide (p.1 = u ∧ p.2 ≠ none) : Nat)
theorem gOf_snoc {row : List Nat} {found : List (Option Int)} (h : found.length = row.length) (r : Nat) (o : Option Int) (u k : Nat) : gOf (row ++ [r]) (found ++ [o]) u k = gOf row found u k + if r = u ∧ o = some (k : Int) then 1 else 0 := by
  unfold gOf
  rw [List.zip_append h.symm, List.countP_append]
  by_cases c : r = u ∧ o = some (k : Int)
  · rw [if_pos c]; simp [c]
  · rw [if_neg c]; simp [c]
theorem cOf_snoc {row : List Nat} {found : List (Option Int)} (h : found.length = row.length) (r : Nat) (o : Option Int) (u : Nat) : cOf (row ++ [r]) (found ++ [o]) u = cOf row found u + if r = u ∧ o ≠ none then 1 else 0 := by
  unfold cOf
  rw [List.zip_append h.symm, List.countP_append]
  by_cases c : r = u ∧ o ≠ none
  · rw [if_pos c]; simp [c]
  · rw [if_neg c]
    rw [show [r].zip [o] = [(r, o)] from rfl, List.countP_singleton, if_neg (fun e => c (of_decide_eq_true e))]
    omega
theorem filter_sub : ∀ (l : List Nat) (p q : Nat → Bool), (∀ i, p i = true → q i = true) → (l.filter p).length ≤ (l.filter q).length ∧ ((l.filter q).length ≤ (l.filter p).length → ∀ i ∈ l, q i = true → p i = true)
  | [], _, _, _ => ⟨Nat.le_refl _, fun _ i h => by cases h⟩
  | x :: xs, p, q, h => by
    obtain ⟨h1, h2⟩ := filter_sub xs p q h
    cases hp : p x with
    | true =>
      have hq := h x hp
      rw [List.filter_cons, List.filter_cons, if_pos hp, if_pos hq, List.length_cons, List.length_cons]
      refine ⟨by omega, fun hle i hi qi => ?_⟩
      rcases List.mem_cons.mp hi with e | hi
      · rw [e]; exact hp
      · exact h2 (by omega) i hi qi
    | false =>
      cases hq : q x with
      | true =>
        rw [List.filter_cons, List.filter_cons, if_neg (by rw [hp]; decide), if_pos hq, List.length_cons]
        exact ⟨by omega, fun hle => by omega⟩
      | false =>
        rw [List.filter_cons, List.filter_cons, if_neg (by rw [hp]; decide), if_neg (by rw [hq]; decide)]
        refine ⟨h1, fun hle i hi qi => ?_⟩
        rcases List.mem_cons.mp hi with e | hi
        · rw [e, hq] at qi; cases qi
        · exact h2 hle i hi qi
/-- no two kinds cross -/
def LamL (lots : List (List Int)) : Prop := ∀ (k l : Int), (∃ t ∈ lots, k ∈ t ∧ l ∈ t) → (∀ t ∈ lots, k ∈ t → l ∈ t) ∨ (∀ t ∈ lots, l ∈ t → k ∈ t)
theorem getD_mem {lots : List (List Int)} {u : Nat} (h : u < lots.length) : lots.getD u [] ∈ lots := by
  rw [List.getD_eq_getElem?_getD, List.getElem?_eq_getElem h]
  exact List.getElem_mem _
theorem cnt_sub {lots : List (List Int)} {k l : Int} (h : ∀ t ∈ lots, l ∈ t → k ∈ t) (g : cntT lots k ≤ cntT lots l) : ∀ t ∈ lots, k ∈ t → l ∈ t := by
  have := (filter_sub (List.range lots.length) (fun i => decide (l ∈ lots.getD i [])) (fun i => decide (k ∈ lots.getD i [])) fun i hi => by
    have hi := of_decide_eq_true hi
    by_cases hl : i < lots.length
    · exact decide_eq_true (h _ (getD_mem hl) hi)
    · rw [List.getD_eq_getElem?_getD, List.getElem?_eq_none_iff.mpr (by omega)] at hi
      cases hi).2 g
  intro t ht hk
  obtain ⟨i, hi, e⟩ := List.getElem_of_mem ht
  have e2 : lots.getD i [] = t := by rw [List.getD_eq_getElem?_getD, List.getElem?_eq_getElem hi, e]; rfl
  have := of_decide_eq_true (this i (List.mem_range.mpr hi) (decide_eq_true (by rw [e2]; exact hk)))
  rw [e2] at this
  exact this
section
variable {lots : List (List Int)} {stock left : List Int} {row : List Nat} {found : List (Option Int)} {n : Nat}
theorem RunR.sok (h : RunR lots stock row found left) (hrow : ∀ r ∈ row, r < lots.length) (hl : ∀ r k, k ∈ lots.getD r [] → 0 ≤ k ∧ k < (n : Int)) (hn : stock.length = n) (hs : ∀ x ∈ stock, 0 ≤ x) :
    SOk lots.length n (accL lots) (gD stock) (gOf row found) (gD left) (cOf row found) ∧
    ∀ u k l, u < lots.length → k < n → l < n → 0 < gOf row found u k → (l : Int) ∈ lots.getD u [] → 0 < gD left l → cntT lots k ≤ cntT lots l := by
  induction h with
  | nil =>
    refine ⟨⟨fun u k _ _ => by simp [gOf], fun u k _ _ h => by simp [gOf] at h, fun k hk => ?_, fun k hk => ?_, fun u hu => ?_⟩, fun u k l _ _ _ h => by simp [gOf] at h⟩
    · have : stock[k]? = some stock[k] := List.getElem?_eq_getElem (by omega)
      rw [gD_get this]
      exact hs _ (List.getElem_mem _)
    · have : sumR lots.length (fun u => gOf [] [] u k) = 0 := by
        rw [sumR_congr lots.length (g := fun _ => 0) fun i _ => by simp [gOf]]
        exact sumR_zero _
      omega
    · rw [sumR_congr n (g := fun _ => 0) fun i _ => by simp [gOf], sumR_zero]
      simp [cOf]
  | @snoc row found left r o h hr ih =>
    obtain ⟨S, P⟩ := ih fun r hr => hrow r (List.mem_append_left _ hr)
    have hrl : r < lots.length := hrow r (by simp)
    obtain ⟨l1, l2⟩ := h.len
    cases o with
    | none =>
      refine ⟨S.ext (fun k _ => rfl) (fun u k _ _ => ?_) (fun k _ => rfl) (fun u _ => ?_), fun u k l hu hk hl' hp ha hlf => ?_⟩
      · rw [gOf_snoc l1, if_neg (by simp)]; omega
      · rw [cOf_snoc l1, if_neg (by simp)]; omega
      · rw [gOf_snoc l1, if_neg (by simp)] at hp
        exact P u k l hu hk hl' (by omega) ha hlf
    | some kd =>
      obtain ⟨h1, h2, h3⟩ := hr.yes kd rfl
      have hkr := hl r kd h1
      have hkn : kd.toNat < n := by omega
      have hkl : kd.toNat < left.length := by omega
      have ek : ((kd.toNat : Nat) : Int) = kd := Int.toNat_of_nonneg hkr.1
      have hpos : 0 < gD left kd.toNat := h2
      have S2 := (S.first (k := kd.toNat) hrl hkn (by unfold accL; rw [ek]; exact h1)).last hkn hpos
      have eaft : ∀ j, gD (after left (some kd)) j = gD left j + e1 kd.toNat (-1) j := fun j => by
        show gD (left.set kd.toNat (left.getD kd.toNat 0 - 1)) j = _
        rw [gD_set hkl]
        unfold e1
        by_cases c : j = kd.toNat
        · rw [if_pos c, if_pos c, c]; show gD left kd.toNat - 1 = _; omega
        · rw [if_neg c, if_neg c]; omega
      refine ⟨S2.ext (fun k _ => rfl) (fun u k _ _ => ?_) (fun k _ => eaft k) (fun u _ => ?_), fun u k l hu hk hl' hp ha hlf => ?_⟩
      · rw [gOf_snoc l1]
        congr 1
        unfold e1
        by_cases c : r = u
        · by_cases d : k = kd.toNat
          · rw [if_pos ⟨c, by rw [d, ek]⟩, if_pos c.symm, if_pos d]
          · rw [if_neg (by rintro ⟨_, e⟩; have := Option.some.inj e; omega), if_pos c.symm, if_neg d]
        · rw [if_neg (by rintro ⟨e, _⟩; exact c e), if_neg fun e => c e.symm]
      · rw [cOf_snoc l1]
        congr 1
        unfold e1
        by_cases c : r = u
        · rw [if_pos ⟨c, by simp⟩, if_pos c.symm]
        · rw [if_neg (by rintro ⟨e, _⟩; exact c e), if_neg fun e => c e.symm]
      · rw [gOf_snoc l1] at hp
        have hlo : 0 < gD left l := by
          rw [eaft] at hlf
          unfold e1 at hlf
          by_cases c : l = kd.toNat
          · rw [if_pos c] at hlf; omega
          · rw [if_neg c] at hlf; omega
        by_cases c : r = u ∧ some kd = some (k : Int)
        · obtain ⟨c1, c2⟩ := c
          have c2 := Option.some.inj c2
          subst c1
          have := h3 (l : Int) ha (by rw [Int.toNat_natCast]; exact hlo)
          rw [← c2]
          omega
        · rw [if_neg c] at hp
          exact P u k l hu hk hl' (by omega) ha hlo
/-- what the rule refuses, no serving has -/
theorem RunR.full (h : RunR lots stock row found left) (hrow : ∀ r ∈ row, r < lots.length) (hl : ∀ r k, k ∈ lots.getD r [] → 0 ≤ k ∧ k < (n : Int)) (hn : stock.length = n) (hs : ∀ x ∈ stock, 0 ≤ x) (hlam : LamL lots) {r : Nat} (hr : r < lots.length) (hno : RuleR lots left r none) :
    Full lots.length n (accL lots) (gD stock) (cOf row found) r := by
  obtain ⟨S, P⟩ := h.sok hrow hl hn hs
  refine full_of (T := fun u => ∀ k ∈ lots.getD u [], left.getD k.toNat 0 ≤ 0) S (fun u k hu hk hT ha => ?_) hr (hno.no rfl)
  have h0 := S.l0 k hk
  have hT0 := hT (k : Int) ha
  rw [Int.toNat_natCast] at hT0
  refine ⟨Int.le_antisymm hT0 h0, fun v hv hg l hlv => ?_⟩
  refine Int.not_lt.mp fun hpos => ?_
  have hlr := hl v l hlv
  have hka := S.gl v k hv hk hg
  have el : ((l.toNat : Nat) : Int) = l := Int.toNat_of_nonneg hlr.1
  have caseA : (∀ t ∈ lots, (k : Int) ∈ t → l ∈ t) → False := fun hA => by
    have := hT l (hA _ (getD_mem hu) ha)
    omega
  rcases hlam (k : Int) l ⟨_, getD_mem hv, hka, hlv⟩ with hA | hB
  · exact caseA hA
  · have := P v k l.toNat hv hk (by omega) hg (by rw [el]; exact hlv) hpos
    rw [el] at this
    exact caseA (cnt_sub hB this)
end
end KP
namespace KP
open PySem PySem.Spec PyProof.Rows L2
open FL
/-! ### dicts of numbers -/
def dI (cs : List (Nat × Nat)) : List (Key × V) := cs.map fun p => (Sum.inl (p.1 : Int), V.int p.2)
theorem dI_none {cs : List (Nat × Nat)} {k : Nat} (h : k ∉ cs.map Prod.fst) : valV (dI cs) (Sum.inl (k : Int) : Key) = none := by
  induction cs with
  | nil => rfl
  | cons p r ih =>
    have h1 : ¬ k = p.1 := fun e => h (by rw [e]; exact List.mem_cons_self ..)
    show valV ((Sum.inl (p.1 : Int), V.int p.2) :: dI r) _ = none
    rw [valV_neg (by intro e; apply h1; have := Sum.inl.inj e; omega)]
    exact ih fun m => h (List.mem_cons_of_mem _ m)
theorem dI_some {cs : List (Nat × Nat)} {k r : Nat} (h : (k, r) ∈ cs) (n : (cs.map Prod.fst).Nodup) : valV (dI cs) (Sum.inl (k : Int) : Key) = some (.int r) := by
  induction cs with
  | nil => cases h
  | cons p q ih =>
    have n' := List.nodup_cons.mp n
    show valV ((Sum.inl (p.1 : Int), V.int p.2) :: dI q) _ = _
    rcases List.mem_cons.mp h with e | h
    · rw [← e]; exact valV_pos rfl
    · have h1 : ¬ p.1 = k := fun e => n'.1 (by rw [e]; exact List.mem_map.mpr ⟨_, h, rfl⟩)
      rw [valV_neg (by intro e; apply h1; have := Sum.inl.inj e; omega)]
      exact ih h n'.2
theorem dI_put {cs : List (Nat × Nat)} {k r : Nat} (h : k ∉ cs.map Prod.fst) : putK (dI cs) (Sum.inl (k : Int)) (.int r) = dI (cs ++ [(k, r)]) := by
  rw [putK_new _ (dI_none h)]
  unfold dI
  rw [List.map_append]
  rfl
theorem dI_len (cs : List (Nat × Nat)) : (dI cs).length = cs.length := by simp [dI]
theorem dI_isSome {cs : List (Nat × Nat)} {k : Nat} (n : (cs.map Prod.fst).Nodup) : (valV (dI cs) (Sum.inl (k : Int) : Key)).isSome = decide (k ∈ cs.map Prod.fst) := by
  by_cases h : k ∈ cs.map Prod.fst
  · obtain ⟨p, hp, e⟩ := List.mem_map.mp h
    rw [decide_eq_true h, dI_some (r := p.2) (by rw [← e]; exact hp) n]
    rfl
  · rw [decide_eq_false h, dI_none h]; rfl
theorem len_le : ∀ (m : Nat) (l : List Nat), l.Nodup → (∀ x ∈ l, x < m) → l.length ≤ m
  | 0, l, _, h => by
    cases l with
    | nil => exact Nat.le_refl _
    | cons x xs => exact absurd (h x (List.mem_cons_self ..)) (by omega)
  | m + 1, l, n, h => by
    by_cases hm : m ∈ l
    · have := len_le m (l.erase m) (n.erase m) fun x hx => by
        have h1 := h x (List.mem_of_mem_erase hx)
        have h2 : x ≠ m := fun e => by rw [e] at hx; exact n.not_mem_erase hx
        omega
      rw [List.length_erase_of_mem hm] at this
      have := List.length_pos_of_mem hm
      omega
    · have := len_le m l n fun x hx => by
        have h1 := h x hx
        have h2 : x ≠ m := fun e => hm (e ▸ hx)
        omega
      omega
/-! ### the search -/
section
variable {m n : Nat} {acc : Nat → Nat → Prop} {g : Nat → Nat → Int} {left : Nat → Int} {start : Nat}
structure BV (m n : Nat) (acc : Nat → Nat → Prop) (g : Nat → Nat → Int) (start : Nat) (cs hs : List (Nat × Nat)) : Prop where
  v1 : (start :: hs.map Prod.fst).Nodup
  v1b : ∀ u ∈ start :: hs.map Prod.fst, u < m
  v2 : (cs.map Prod.fst).Nodup
  v2b : ∀ p ∈ cs, p.1 < n ∧ p.2 ∈ start :: hs.map Prod.fst ∧ acc p.2 p.1
  v4 : ∀ (i : Nat) (p : Nat × Nat), hs[i]? = some p → p.2 < n ∧ 0 < g p.1 p.2 ∧ ∃ r, (p.2, r) ∈ cs ∧ r ∈ start :: (hs.take i).map Prod.fst
/-- k is dealt with -/
def KDone (m : Nat) (g : Nat → Nat → Int) (left : Nat → Int) (start : Nat) (hs : List (Nat × Nat)) (k : Nat) : Prop := left k ≤ 0 ∧ ∀ v, v < m → 0 < g v k → v ∈ start :: hs.map Prod.fst
theorem BV.len {cs hs : List (Nat × Nat)} (b : BV m n acc g start cs hs) : hs.length + 1 ≤ m := by
  have := len_le m _ b.v1 b.v1b
  simpa using this
theorem BV.clen {cs hs : List (Nat × Nat)} (b : BV m n acc g start cs hs) : cs.length ≤ n := by
  have := len_le n _ b.v2 fun x hx => by
    obtain ⟨p, hp, e⟩ := List.mem_map.mp hx
    rw [← e]; exact (b.v2b p hp).1
  simpa using this
theorem BV.init (hs : start < m) : BV m n acc g start [] [] := ⟨by simp, by simpa using hs, by simp, (fun p h => by cases h), (fun i p h => by simp at h)⟩
/-- a kind comes -/
theorem BV.come {cs hs : List (Nat × Nat)} {k r : Nat} (b : BV m n acc g start cs hs) (hk : k < n) (hn : k ∉ cs.map Prod.fst) (hr : r ∈ start :: hs.map Prod.fst) (ha : acc r k) : BV m n acc g start (cs ++ [(k, r)]) hs := by
  refine ⟨b.v1, b.v1b, ?_, fun p hp => ?_, fun i p h => ?_⟩
  · rw [List.map_append]
    exact List.nodup_append.mpr ⟨b.v2, by simp, fun x hx y hy => by
      have : y = k := by simpa using hy
      rw [this]; exact fun e => hn (e ▸ hx)⟩
  · rcases List.mem_append.mp hp with hp | hp
    · exact b.v2b p hp
    · rw [List.mem_singleton.mp hp]; exact ⟨hk, hr, ha⟩
  · obtain ⟨h1, h2, r', h3, h4⟩ := b.v4 i p h
    exact ⟨h1, h2, r', List.mem_append_left _ h3, h4⟩
/-- a holder is found -/
theorem BV.hold {cs hs : List (Nat × Nat)} {u k r : Nat} (b : BV m n acc g start cs hs) (hu : u < m) (hn : u ∉ start :: hs.map Prod.fst) (hg : 0 < g u k) (hk : k < n) (hc : (k, r) ∈ cs) : BV m n acc g start cs (hs ++ [(u, k)]) := by
  refine ⟨?_, fun x hx => ?_, b.v2, fun p hp => ?_, fun i p h => ?_⟩
  · rw [List.map_append, ← List.cons_append]
    exact List.nodup_append.mpr ⟨b.v1, by simp, fun x hx y hy => by
      have : y = u := by simpa using hy
      rw [this]; exact fun e => hn (e ▸ hx)⟩
  · rw [List.map_append, ← List.cons_append] at hx
    rcases List.mem_append.mp hx with hx | hx
    · exact b.v1b x hx
    · have : x = u := by simpa using hx
      rw [this]; exact hu
  · obtain ⟨h1, h2, h3⟩ := b.v2b p hp
    refine ⟨h1, ?_, h3⟩
    rw [List.map_append, ← List.cons_append]
    exact List.mem_append_left _ h2
  · by_cases hi : i < hs.length
    · rw [List.getElem?_append_left hi] at h
      obtain ⟨h1, h2, r', h3, h4⟩ := b.v4 i p h
      refine ⟨h1, h2, r', h3, ?_⟩
      rw [List.take_append_of_le_length (by omega)]
      exact h4
    · have hil : i = hs.length := by
        have := (List.getElem?_eq_some_iff.mp h).1
        simp at this; omega
      subst hil
      rw [List.getElem?_append_right (Nat.le_refl _)] at h
      have e : p = (u, k) := by simpa using h.symm
      rw [e]
      refine ⟨hk, hg, r, hc, ?_⟩
      rw [List.take_left]
      exact (b.v2b _ hc).2.1
theorem KDone.grow {hs : List (Nat × Nat)} {k : Nat} (h : KDone m g left start hs k) (p : Nat × Nat) : KDone m g left start (hs ++ [p]) k := ⟨h.1, fun v hv hg => by
  rw [List.map_append, ← List.cons_append]
  exact List.mem_append_left _ (h.2 v hv hg)⟩
/-- nothing more is found: what was seen is closed -/
theorem BV.closed {cs hs : List (Nat × Nat)} (b : BV m n acc g start cs hs) (l0 : ∀ k, k < n → 0 ≤ left k) (p1 : ∀ u ∈ start :: hs.map Prod.fst, ∀ k, k < n → acc u k → k ∈ cs.map Prod.fst) (p2 : ∀ k ∈ cs.map Prod.fst, KDone m g left start hs k) :
    Closed m n acc g left fun u => u ∈ start :: hs.map Prod.fst := fun u k hu hk hT ha => by
  obtain ⟨h1, h2⟩ := p2 k (p1 u hT k hk ha)
  exact ⟨Int.le_antisymm h1 (l0 k hk), h2⟩
/-- a way, or what is known of it from its end -/
structure WayR (m n : Nat) (acc : Nat → Nat → Prop) (g : Nat → Nat → Int) (left : Nat → Int) (way : List (Nat × Nat)) : Prop where
  ok : ∀ p ∈ way, p.1 < m ∧ p.2 < n ∧ acc p.1 p.2
  link : ∀ (i : Nat) (p q : Nat × Nat), way[i]? = some p → way[i + 1]? = some q → 0 < g q.1 p.2
  last : ∀ p, way.getLast? = some p → 0 < left p.2
  nd : (way.map Prod.fst).Nodup
  ne : way ≠ []
theorem WayR.one {r k : Nat} (hr : r < m) (hk : k < n) (ha : acc r k) (hl : 0 < left k) : WayR m n acc g left [(r, k)] := ⟨fun p hp => by rw [List.mem_singleton.mp hp]; exact ⟨hr, hk, ha⟩, fun i p q h1 h2 => by simp at h2, fun p h => by
  have : p = (r, k) := by simpa using h.symm
  rw [this]; exact hl, by simp, by simp⟩
theorem WayR.cons {r k r1 k1 : Nat} {way : List (Nat × Nat)} (h : WayR m n acc g left ((r1, k1) :: way)) (hr : r < m) (hk : k < n) (ha : acc r k) (hg : 0 < g r1 k) (hn : r ∉ ((r1, k1) :: way).map Prod.fst) : WayR m n acc g left ((r, k) :: (r1, k1) :: way) := by
  refine ⟨fun p hp => ?_, fun i p q h1 h2 => ?_, fun p hp => ?_, List.nodup_cons.mpr ⟨hn, h.nd⟩, by simp⟩
  · rcases List.mem_cons.mp hp with e | hp
    · rw [e]; exact ⟨hr, hk, ha⟩
    · exact h.ok p hp
  · cases i with
    | zero =>
      have e1 : p = (r, k) := by simpa using h1.symm
      have e2 : q = (r1, k1) := by simpa using h2.symm
      rw [e1, e2]; exact hg
    | succ i => exact h.link i p q (by simpa using h1) (by simpa using h2)
  · rw [List.getLast?_cons_cons] at hp
    exact h.last p hp
/-- what is behind the first of a way stands at no earlier place -/
def Behind (vis : List Nat) (i0 : Nat) (way : List (Nat × Nat)) : Prop := ∀ p ∈ way, ∃ i, i0 ≤ i ∧ vis[i]? = some p.1
theorem BV.back {cs hs : List (Nat × Nat)} {r k i0 : Nat} {way : List (Nat × Nat)} (b : BV m n acc g start cs hs) (hw : WayR m n acc g left ((r, k) :: way)) (h0 : (start :: hs.map Prod.fst)[i0]? = some r) (hb : Behind (start :: hs.map Prod.fst) i0 ((r, k) :: way)) (hs' : r ≠ start) :
    ∃ k' r' j, (r, k') ∈ hs ∧ (k', r') ∈ cs ∧ j < i0 ∧ (start :: hs.map Prod.fst)[j]? = some r' ∧ WayR m n acc g left ((r', k') :: (r, k) :: way) ∧ Behind (start :: hs.map Prod.fst) j ((r', k') :: (r, k) :: way) := by
  cases i0 with
  | zero => exact absurd (by simpa using h0.symm) hs'
  | succ i =>
    have h1 : (hs.map Prod.fst)[i]? = some r := by simpa using h0
    rw [List.getElem?_map] at h1
    cases e : hs[i]? with
    | none => rw [e] at h1; cases h1
    | some p =>
      rw [e] at h1
      have e1 : p.1 = r := Option.some.inj h1
      obtain ⟨q1, q2, r', q3, q4⟩ := b.v4 i p e
      obtain ⟨j, hj⟩ := List.mem_iff_getElem?.mp q4
      have hjl : j < i + 1 := by
        have := (List.getElem?_eq_some_iff.mp hj).1
        simp at this; omega
      have hj2 : (start :: hs.map Prod.fst)[j]? = some r' := by
        cases j with
        | zero => simpa using hj
        | succ j =>
          have hj : ((hs.take i).map Prod.fst)[j]? = some r' := by simpa using hj
          show (hs.map Prod.fst)[j]? = some r'
          rw [List.getElem?_map] at hj ⊢
          rw [List.getElem?_take_of_lt (by omega)] at hj
          exact hj
      have hne : r' ∉ ((r, k) :: way).map Prod.fst := fun hm => by
        obtain ⟨p', hp', e'⟩ := List.mem_map.mp hm
        obtain ⟨i', hi', hv⟩ := hb p' hp'
        rw [e'] at hv
        have l1 := (List.getElem?_eq_some_iff.mp hv)
        have l2 := (List.getElem?_eq_some_iff.mp hj2)
        obtain ⟨l1, x1⟩ := l1
        obtain ⟨l2, x2⟩ := l2
        exact List.pairwise_iff_getElem.mp b.v1 j i' l2 l1 (by omega) (x2.trans x1.symm)
      obtain ⟨c1, c2, c3⟩ := b.v2b _ q3
      have c2m := b.v1b _ c2
      refine ⟨p.2, r', j, ?_, q3, hjl, hj2, hw.cons c2m q1 c3 (by rw [← e1]; exact q2) hne, fun p' hp' => ?_⟩
      · rw [← e1]; exact List.mem_of_getElem? e
      · rcases List.mem_cons.mp hp' with e2 | hp'
        · rw [e2]; exact ⟨j, Nat.le_refl _, hj2⟩
        · obtain ⟨i', hi', hv⟩ := hb p' hp'
          exact ⟨i', by omega, hv⟩
end
end KP
namespace KP
open PySem PySem.Spec PyProof.Rows L2
open PySem.W (Datum Tup DatumOrd)
open FL
/-- a state: what is left, and a list of what each type holds -/
structure StR (H : Hp) (S L G : Addr) (gs : List Addr) (left : List Int) (gives : List (List Int)) : Prop where
  hS : H S = some (.lst [.ref L, .ref G])
  hL : H L = some (.lst (left.map V.int))
  hG : H G = some (.lst (gs.map V.ref))
  len : gs.length = gives.length
  row : ∀ (i : Nat) (a : Addr), gs[i]? = some a → ∃ r, gives[i]? = some r ∧ r.length = left.length ∧ H a = some (.lst (r.map V.int))
  nd : (S :: L :: G :: gs).Nodup
theorem StR.kp {M : List Addr} {H H' : Hp} {S L G : Addr} {gs : List Addr} {left : List Int} {gives : List (List Int)} (h : StR H S L G gs left gives) (e : Kp M H H') (hM : ∀ x ∈ S :: L :: G :: gs, x ∉ M) : StR H' S L G gs left gives := by
  refine ⟨e.keep _ _ h.hS (hM _ (by simp)), e.keep _ _ h.hL (hM _ (by simp)), e.keep _ _ h.hG (hM _ (by simp)), h.len, fun i a ha => ?_, h.nd⟩
  obtain ⟨r, h1, h2, h3⟩ := h.row i a ha
  exact ⟨r, h1, h2, e.keep _ _ h3 (hM _ (by have := List.mem_of_getElem? ha; simp [this]))⟩
def gG (gives : List (List Int)) (u k : Nat) : Int := gD (gives.getD u []) k
def wayI (way : List (Nat × Nat)) : List (Int × Int) := way.map fun p => ((p.1 : Int), (p.2 : Int))
/-- the lots as the laws hold them: a list of tuples -/
def LotsR (K : PySem.W.Frag) (H : Hp) (l : Addr) (lots : List (List Int)) : Prop := ∃ ws, SqL K H l ws ∧ IsAll K H ws (tups lots)
theorem LotsR.kp {K : PySem.W.Frag} {M : List Addr} {H H' : Hp} {l : Addr} {lots : List (List Int)} (h : LotsR K H l lots) (e : Kp M H H') (hl : l ∉ M) : LotsR K H' l lots := by
  obtain ⟨ws, h1, h2⟩ := h
  exact ⟨ws, e.sqL h1 hl, h2.kp e⟩
def spStart (K : PySem.W.Frag) : Sp := fun vs H Q _ => ∃ (l p : Addr) (ws : List V) (stock : List Int), vs = [.ref l, .ref p] ∧ SqL K H l ws ∧ ws.length ≤ 1000 ∧ (SqL K H p (stock.map V.int) ∨ SqT K H p (stock.map V.int)) ∧ stock.length ≤ 1000 ∧
  ∀ (H' : Hp) (S L G : Addr) (gs : List Addr), Kp [] H H' → StR H' S L G gs stock (List.replicate ws.length (List.replicate stock.length 0)) → (∀ x ∈ S :: L :: G :: gs, H x = none) → Q (.ref S) H'
structure WayOk (K : PySem.W.Frag) (H : Hp) (l S L G : Addr) (gs : List Addr) (lots : List (List Int)) (left : List Int) (gives : List (List Int)) : Prop where
  st : StR H S L G gs left gives
  lt : LotsR K H l lots
  ml : gives.length = lots.length
  m1 : lots.length ≤ 1000
  n1 : left.length ≤ 1000
  ok : ∀ t ∈ lots, ∀ k ∈ t, 0 ≤ k ∧ k < left.length
  l1 : ∀ t ∈ lots, t.length ≤ 1000
  l0 : ∀ k, k < left.length → 0 ≤ gD left k
def spWay (K : PySem.W.Frag) : Sp := fun vs H Q _ => ∃ (l S L G : Addr) (gs : List Addr) (lots : List (List Int)) (left : List Int) (gives : List (List Int)) (r : Nat), vs = [.ref l, .ref S, .int r] ∧ WayOk K H l S L G gs lots left gives ∧ r < lots.length ∧
  (∀ (H' : Hp) (T : Nat → Prop), Kp [] H H' → Closed lots.length left.length (accL lots) (gG gives) (gD left) T → T r → Q .non H') ∧
  (∀ (H' : Hp) (p : Addr) (ws : List V) (way : List (Nat × Nat)) (k : Nat), Kp [] H H' → H p = none → H' p = some (.lst ws) → IsAll K H' ws (wayI way) → WayR lots.length left.length (accL lots) (gG gives) (gD left) way → way.head? = some (r, k) → Q (.ref p) H')
section
variable {K : PySem.W.Frag} {σ : S2} {H : Hp} {Q : VK} {a : Addr} {xs : List V} {g : TG} {tt : TT} {te : TE} {vs : List Nat}
theorem w_lcLRaw (h : SqL K H a xs) (Pv : Addr → Nat → Hp → Prop) (h0 : ∀ D, H D = none → Pv D 0 (upd H D (.lst []))) (hl : ∀ D i H', Pv D i H' → SqL K H' a xs)
    (hs : ∀ D i x H1, xs[i]? = some x → Pv D i H1 → g x (wipe σ vs) H1 fun σ2 H3 => wipe σ2 vs = wipe σ vs ∧ tt σ2 H3 fun b H4 => if b = true then te σ2 H4 (fun y H5 => ∃ acc, H5 D = some (.lst acc) ∧ acc.length < sizeLine ∧ Pv D (i + 1) (upd H5 D (.lst (acc ++ [y])))) else Pv D (i + 1) H4)
    (hd : ∀ D H', Pv D xs.length H' → Q (.ref D) H') : lcL K g tt te vs σ Q (.ref a) H :=
  ⟨a, rfl, ⟨xs, h⟩, fun D hD => lc_it (walk_list (xs := xs)) (Pv D) (h0 D hD) (fun i H1 _ p => hl D i H1 p) (fun i x H1 H2 hi p y => by
    obtain ⟨rfl, y⟩ := y
    exact hs D i x _ y p) (hd D)⟩
theorem w_listQ {p : Addr} (h : SqL K H p xs ∨ SqT K H p xs) (q : ∀ l, H l = none → Q (.ref l) (upd H l (.lst xs))) : rListQ K [.ref p] H Q := ⟨p, xs, rfl, h, q⟩
theorem w_lenQ {p : Addr} (h : SqL K H p xs ∨ SqT K H p xs) (q : Q (.int xs.length) H) : rLenQ K [.ref p] H Q := ⟨p, xs, rfl, h, q⟩
/-! dicts -/
theorem w_dNew (q : ∀ p, H p = none → Q (.ref p) (upd H p (.dK []))) : tDNewK σ H Q := q
def dinV (f : Bool → Bool) (y x : V) (H : Hp) (Q : VK) : Prop := ∃ a o, x = .ref a ∧ DGet H a y o ∧ Q (.bl (f o.isSome)) H
theorem w_dNotIn {td ty : TE} (q : ty σ H fun y H1 => td σ H1 fun x H2 => dinV (!·) y x H2 Q) : tDNotIn ty td σ H Q := q
theorem w_dIn {td ty : TE} (q : ty σ H fun y H1 => td σ H1 fun x H2 => dinV id y x H2 Q) : tDIn ty td σ H Q := q
theorem w_dinI {f : Bool → Bool} {cs : List (Nat × Nat)} {k : Nat} {p : Addr} (h : H p = some (.dK (dI cs))) (n : (cs.map Prod.fst).Nodup) (q : Q (.bl (f (decide (k ∈ cs.map Prod.fst)))) H) : dinV f (.int k) (.ref p) H Q :=
  ⟨p, _, rfl, DGet.k (k := Sum.inl (k : Int)) h, by rw [dI_isSome n]; exact q⟩
def dgetV (y x : V) (H : Hp) (Q : VK) : Prop := ∃ a v, x = .ref a ∧ DGet H a y (some v) ∧ Q v H
theorem w_dGet {td ty : TE} (q : td σ H fun x H1 => ty σ H1 fun y H2 => dgetV y x H2 Q) : tDGet td ty σ H Q := q
theorem w_dgetI {cs : List (Nat × Nat)} {k r : Nat} {p : Addr} (h : H p = some (.dK (dI cs))) (n : (cs.map Prod.fst).Nodup) (hm : (k, r) ∈ cs) (q : Q (.int r) H) : dgetV (.int k) (.ref p) H Q :=
  ⟨p, _, rfl, by rw [← dI_some hm n]; exact DGet.k (k := Sum.inl (k : Int)) h, q⟩
def dputV (v x y : V) (H : Hp) (q : Hp → Prop) : Prop := ∃ a H4, x = .ref a ∧ DPut H a y v H4 ∧ q H4
theorem w_dPut {td ty tv : TE} {nx : S2 → Hp → Prop} {rt : VK} {bk ct : S2 → Hp → Prop} (q : tv σ H fun v H1 => td σ H1 fun x H2 => ty σ H2 fun y H3 => dputV v x y H3 fun H4 => nx σ H4) : sDPut td ty tv ⟨nx, rt, bk, ct⟩ σ H := q
theorem w_dputI {cs : List (Nat × Nat)} {k r : Nat} {p : Addr} {q : Hp → Prop} (h : H p = some (.dK (dI cs))) (hn : k ∉ cs.map Prod.fst) (hl : cs.length ≤ 100000) (e : q (upd H p (.dK (dI (cs ++ [(k, r)]))))) : dputV (.int r) (.ref p) (.int k) H q :=
  ⟨p, _, rfl, .inl ⟨_, Sum.inl (k : Int), h, rfl, by rw [dI_len, sizeLine_eq]; omega, rfl⟩, by rw [dI_put hn]; exact e⟩
end
end KP
namespace KP
open PySem PySem.Spec PyProof.Rows L2
open PySem.W (Datum Tup DatumOrd)
open FL
theorem StR.set {H : Hp} {S L G : Addr} {gs : List Addr} {left : List Int} {gives : List (List Int)} (h : StR H S L G gs left gives) {u : Nat} {a : Addr} {r : List Int} (ha : gs[u]? = some a) (hr : r.length = left.length) : StR (upd H a (.lst (r.map V.int))) S L G gs left (gives.set u r) := by
  have hn := h.nd
  have n1 := List.nodup_cons.mp hn
  have n2 := List.nodup_cons.mp n1.2
  have n3 := List.nodup_cons.mp n2.2
  have hm := List.mem_of_getElem? ha
  have nS : S ≠ a := fun e => n1.1 (by rw [e]; exact List.mem_cons_of_mem _ (List.mem_cons_of_mem _ hm))
  have nL : L ≠ a := fun e => n2.1 (by rw [e]; exact List.mem_cons_of_mem _ hm)
  have nG : G ≠ a := fun e => n3.1 (by rw [e]; exact hm)
  refine ⟨by rw [upd_ne nS]; exact h.hS, by rw [upd_ne nL]; exact h.hL, by rw [upd_ne nG]; exact h.hG, by rw [List.length_set]; exact h.len, fun i b hb => ?_, hn⟩
  obtain ⟨ro, h1, h2, h3⟩ := h.row i b hb
  by_cases e : i = u
  · subst e
    rw [ha] at hb
    cases hb
    exact ⟨r, by rw [List.getElem?_set_self (List.getElem?_eq_some_iff.mp h1).1], hr, upd_same⟩
  · have nab : b ≠ a := fun c => by
      subst c
      obtain ⟨l1, x1⟩ := List.getElem?_eq_some_iff.mp hb
      obtain ⟨l2, x2⟩ := List.getElem?_eq_some_iff.mp ha
      have hp := List.pairwise_iff_getElem.mp n3.2
      rcases Nat.lt_trichotomy i u with c | c | c
      · exact hp i u l1 l2 c (x1.trans x2.symm)
      · exact e c
      · exact hp u i l2 l1 c (x2.trans x1.symm)
    exact ⟨ro, by rw [List.getElem?_set_ne (fun q => e q.symm)]; exact h1, h2, by rw [upd_ne nab]; exact h3⟩
theorem StR.setL {H : Hp} {S L G : Addr} {gs : List Addr} {left left' : List Int} {gives : List (List Int)} (h : StR H S L G gs left gives) (hl : left'.length = left.length) : StR (upd H L (.lst (left'.map V.int))) S L G gs left' gives := by
  have hn := h.nd
  have n1 := List.nodup_cons.mp hn
  have n2 := List.nodup_cons.mp n1.2
  have nS : S ≠ L := fun e => n1.1 (by rw [e]; exact List.mem_cons_self ..)
  have nG : G ≠ L := fun e => n2.1 (by rw [← e]; exact List.mem_cons_self ..)
  refine ⟨by rw [upd_ne nS]; exact h.hS, upd_same, by rw [upd_ne nG]; exact h.hG, h.len, fun i b hb => ?_, hn⟩
  obtain ⟨ro, h1, h2, h3⟩ := h.row i b hb
  have nb : b ≠ L := fun e => n2.1 (by rw [← e]; exact List.mem_cons_of_mem _ (List.mem_of_getElem? hb))
  exact ⟨ro, h1, h2.trans hl.symm, by rw [upd_ne nb]; exact h3⟩
theorem gG_set {gives : List (List Int)} {u : Nat} {r : List Int} (h : u < gives.length) (v j : Nat) : gG (gives.set u r) v j = if v = u then gD r j else gG gives v j := by
  unfold gG
  rw [List.getD_eq_getElem?_getD, List.getD_eq_getElem?_getD]
  by_cases e : v = u
  · subst e; rw [List.getElem?_set_self h, if_pos rfl]; rfl
  · rw [List.getElem?_set_ne (fun q => e q.symm), if_neg e]
def spAdd (K : PySem.W.Frag) : Sp := fun vs H Q _ => ∃ (l S L G : Addr) (gs : List Addr) (lots : List (List Int)) (left : List Int) (gives : List (List Int)) (r : Nat), vs = [.ref l, .ref S, .int r] ∧ WayOk K H l S L G gs lots left gives ∧ l ∉ L :: gs ∧ r < lots.length ∧
  (∀ (H' : Hp) (T : Nat → Prop), Kp [] H H' → Closed lots.length left.length (accL lots) (gG gives) (gD left) T → T r → Q (.bl false) H') ∧
  (∀ (H' : Hp) (left' : List Int) (gives' : List (List Int)), Kp (L :: gs) H H' → WayOk K H' l S L G gs lots left' gives' → left'.length = left.length →
    (∀ (stock c : Nat → Int), SOk lots.length left.length (accL lots) stock (gG gives) (gD left) c → SOk lots.length left.length (accL lots) stock (gG gives') (gD left') (fun u => c u + e1 r 1 u)) → Q (.bl true) H')
/-- what stands behind i steps of the way -/
structure AR (lots : List (List Int)) (left : List Int) (gives0 gives : List (List Int)) (r : Nat) (way : List (Nat × Nat)) (i : Nat) (bf : V) : Prop where
  zero : i = 0 → gives = gives0 ∧ bf = .non
  pos : ∀ p, 0 < i → way[i - 1]? = some p → bf = .int p.2 ∧ ∀ (stock c : Nat → Int), SOk lots.length left.length (accL lots) stock (gG gives0) (gD left) c → SOk lots.length left.length (accL lots) (fun j => stock j + e1 p.2 1 j) (gG gives) (gD left) (fun u => c u + e1 r 1 u)
  out : ∀ u, u ∉ (way.take i).map Prod.fst → gives.getD u [] = gives0.getD u []
  len : gives.length = gives0.length
section
variable {lots : List (List Int)} {left : List Int} {gives0 gives : List (List Int)} {r : Nat} {way : List (Nat × Nat)} {i u k : Nat} {bf : V} {ro : List Int}
theorem AR.first (a : AR lots left gives0 gives r way 0 bf) (hw : WayR lots.length left.length (accL lots) (gG gives0) (gD left) way) (hg : way[0]? = some (r, k)) (hml : gives.length = lots.length) (hro : gives[r]? = some ro) (hrl : ro.length = left.length) :
    AR lots left gives0 (gives.set r (ro.set k (gD ro k + 1))) r way 1 (.int k) := by
  obtain ⟨e0, _⟩ := a.zero rfl
  obtain ⟨h1, h2, h3⟩ := hw.ok _ (List.mem_of_getElem? hg)
  refine ⟨fun h => by omega, fun p _ hp => ?_, fun v hv => ?_, by rw [List.length_set]; exact a.len⟩
  · have : p = (r, k) := by rw [hg] at hp; exact (Option.some.inj hp).symm
    subst this
    refine ⟨rfl, fun stock c S => ?_⟩
    refine (S.first h1 h2 h3).ext (fun _ _ => rfl) (fun v j _ hj => ?_) (fun _ _ => rfl) (fun _ _ => rfl)
    rw [gG_set (by omega), ← e0]
    by_cases e : v = r
    · rw [if_pos e, if_pos e, gD_set (by omega), e]
      have : gG gives r j = gD ro j := by unfold gG; rw [List.getD_eq_getElem?_getD, hro]; rfl
      rw [this]
      unfold e1
      by_cases c2 : j = k
      · rw [if_pos c2, if_pos c2, c2]
      · rw [if_neg c2, if_neg c2]; omega
    · rw [if_neg e, if_neg e]; omega
  · have hvr : v ≠ r := fun e => hv (by
      rw [List.take_add_one, hg, e]; simp)
    rw [List.getD_eq_getElem?_getD, List.getElem?_set_ne (fun q => hvr q.symm), ← List.getD_eq_getElem?_getD, e0]
theorem AR.next {kb ub : Nat} (a : AR lots left gives0 gives r way (i + 1) bf) (hw : WayR lots.length left.length (accL lots) (gG gives0) (gD left) way) (hb : way[i]? = some (ub, kb)) (hg : way[i + 1]? = some (u, k)) (hml : gives.length = lots.length) (hro : gives[u]? = some ro) (hrl : ro.length = left.length) :
    bf = .int kb ∧ AR lots left gives0 (gives.set u ((ro.set kb (gD ro kb - 1)).set k (gD (ro.set kb (gD ro kb - 1)) k + 1))) r way (i + 2) (.int k) := by
  obtain ⟨e0, hS⟩ := a.pos (ub, kb) (by omega) hb
  obtain ⟨h1, h2, h3⟩ := hw.ok _ (List.mem_of_getElem? hg)
  obtain ⟨_, hkb, _⟩ := hw.ok _ (List.mem_of_getElem? hb)
  have hlink := hw.link i _ _ hb hg
  have hun : u ∉ (way.take (i + 1)).map Prod.fst := fun hm => by
    obtain ⟨p, hp, e⟩ := List.mem_map.mp hm
    obtain ⟨j, hj⟩ := List.mem_iff_getElem?.mp hp
    have hjl : j < i + 1 := by
      have := (List.getElem?_eq_some_iff.mp hj).1
      rw [List.length_take] at this; omega
    rw [List.getElem?_take_of_lt hjl] at hj
    have g1 : (way.map Prod.fst)[j]? = some u := by rw [List.getElem?_map, hj]; exact congrArg some e
    have g2 : (way.map Prod.fst)[i + 1]? = some u := by rw [List.getElem?_map, hg]; rfl
    obtain ⟨l1, x1⟩ := List.getElem?_eq_some_iff.mp g1
    obtain ⟨l2, x2⟩ := List.getElem?_eq_some_iff.mp g2
    exact List.pairwise_iff_getElem.mp hw.nd j (i + 1) l1 l2 hjl (x1.trans x2.symm)
  have hgu : ∀ j, gG gives u j = gD ro j := fun j => by unfold gG; rw [List.getD_eq_getElem?_getD, hro]; rfl
  have hg0 : ∀ j, gG gives u j = gG gives0 u j := fun j => by unfold gG; rw [a.out u hun]
  refine ⟨e0, fun h => by omega, fun p _ hp => ?_, fun v hv => ?_, by rw [List.length_set]; exact a.len⟩
  · have : p = (u, k) := by
      rw [show i + 2 - 1 = i + 1 by omega, hg] at hp
      exact (Option.some.inj hp).symm
    subst this
    refine ⟨rfl, fun stock c S => ?_⟩
    refine ((hS stock c S).move (r := u) (k' := k) h1 hkb h2 (by rw [hg0]; exact hlink) h3).ext (fun _ _ => rfl) (fun v j _ hj => ?_) (fun _ _ => rfl) (fun _ _ => rfl)
    rw [gG_set (by omega)]
    by_cases e : v = u
    · rw [if_pos e, if_pos e, gD_set (by rw [List.length_set]; omega), gD_set (by omega), e, hgu, gD_set (by omega)]
      unfold e1
      by_cases c1 : j = k
      · rw [if_pos c1, if_pos c1]
        by_cases c2 : j = kb
        · rw [if_pos c2, if_pos (by omega), c2]; omega
        · rw [if_neg c2, if_neg (by omega), c1]; omega
      · rw [if_neg c1, if_neg c1]
        by_cases c2 : j = kb
        · rw [if_pos c2, if_pos c2, c2]; omega
        · rw [if_neg c2, if_neg c2]; omega
    · rw [if_neg e, if_neg e]; omega
  · rw [show i + 2 = (i + 1) + 1 by omega, List.take_add_one, List.map_append] at hv
    have hv1 : v ∉ (way.take (i + 1)).map Prod.fst := fun m => hv (List.mem_append_left _ m)
    have hv2 : v ≠ u := fun e => hv (List.mem_append_right _ (by rw [hg, e]; simp))
    rw [List.getD_eq_getElem?_getD, List.getElem?_set_ne (fun q => hv2 q.symm), ← List.getD_eq_getElem?_getD]
    exact a.out v hv1
end
end KP
namespace KP
open PySem PySem.Spec PyProof.Rows L2
/-- a def that is called by keywords alone -/
structure CalK (P : Program) (w : World) (K : PySem.W.Frag) (mg : Str → Option Value) (base : Heap) (k : Nat) (x : Str) (sp : Sp) (ps ks : List Str) (g : List Value → List Value → List Value) (gV : List V → List V → List V) : Prop where
  ex : ∃ (f : Addr) (fd : FuncData), FnOk P w K mg base C8.CX0 k f fd ps sp ∧ mg x = some (.ref f) ∧ PySem.W.keepIn K (.ref f) = true ∧ KBinds K fd ps ks g gV
section
variable {P : Program} {w : World} {K : PySem.W.Frag} {mg : Str → Option Value} {base : Heap}
theorem mkCalK {x : Str} {st : Stmt} {N ps ks : List Str} {sp : Sp} {k : Nat} {g : List Value → List Value → List Value} {gV : List V → List V → List V} (D : ∃ f fd, C8.Def K mg x st f fd ∧ KBinds K fd ps ks g gV) (S : FnScope N ps (C8.fnScope st)) (len : ∀ vs H Q E, sp vs H Q E → vs.length = ps.length)
    (hbody : ∀ (f : Addr) (cdv : Value) (A : Around) (outer : List Env) (s : Shared) (H : Hp) (vs : List V) (Q : VK) (E : XK), Room k (A.deeper (envOfC x (C8.fnScope st) s.heap.objs.size f cdv)) → sp vs H Q E →
      ∃ t, PSs (cxOf C8.CX0 P w K mg base N x (C8.fnScope st) f cdv A outer s H E).nox (C8.fnBody st) t ∧ t { nx := fun _ H' => Q .non H', rt := Q } (start N vs) H) : CalK P w K mg base (k + 1) x sp ps ks g gV := by
  obtain ⟨f, fd, D, b⟩ := D
  exact ⟨f, fd, C8.fn0 D.fn S len fun cdv A outer s H vs Q E hr h => hbody f cdv A outer s H vs Q E hr h, D.mgf, D.kp, b⟩
variable {X : Cx} {x : Str} {p pos : Pos} {kws : List Keyword} {tk : TA} {k j : Nat} {sp : Sp} {ps ks : List Str} {g : List Value → List Value → List Value} {gV : List V → List V → List V}
theorem pe_ck0 (c : CalK X.prog X.w X.K X.mg X.base k x sp ps ks g gV) (hr : Room j X.A) (hk : k ≤ j) (hg : Gl X x) (hkw : PK X kws tk) (hall : (backToKw pos (keywordEach kws X.env)).all (·.1.isSome) = true := by rfl) (hks : (backToKw pos (keywordEach kws X.env)).filterMap (·.1) = ks := by rfl)
    (hdb : (x == ("__debug__" : Str)) = false := by decide) (hpl : ((backTo pos (starEach [] X.env)).any (·.1) || (backToKw pos (keywordEach kws X.env)).any (·.1.isNone)) = false := by rfl) :
    PE X (.Call (.Name x p) [] kws pos) (tCallK sp gV C8.E0 tNil tk) := by
  obtain ⟨f, fd, F, hm, kp, hb⟩ := c.ex
  refine ⟨fun pins s σ H Q I h => ?_⟩
  refine wpAny_Call_Name_kw (ld_glob I hg hm ?_ hdb)
  refine PySem.W.callWith_KW0 (h₀ := X.base) I.ok.mod.kin kp hall ?_ hpl
  have h : tk σ H fun zs H2 => sp (gV [] zs) H2 Q C8.E0 := h
  refine thn (hkw.run pos pins s σ H _ I h) fun ws s2 ⟨zs, H2, I2, rz, q2⟩ => ⟨I2.kIn, ?_⟩
  rw [hks]
  exact run_fnk F (hr.mono hk) hb pass0 I2 .nil rz q2
variable {σ : S2} {H : Hp} {Q : VK} {E : XK}
theorem w_callK (q : tk σ H fun zs H1 => sp (gV [] zs) H1 Q E) : tCallK sp gV E tNil tk σ H Q := q
/-- three values, backwards -/
def rev3 {α : Type} (us ws : List α) : List α := match us, ws with
  | [], [a, b, c] => [c, b, a]
  | _, _ => []
theorem rev3_rel {vs : List V} {us : List Value} {zs : List V} {ws : List Value} (h : Vals vs us) (g : Vals zs ws) : Vals (rev3 vs zs) (rev3 us ws) := by
  cases h with
  | cons _ _ => exact .nil
  | nil =>
    cases g with
    | nil => exact .nil
    | cons a g =>
      cases g with
      | nil => exact .nil
      | cons b g =>
        cases g with
        | nil => exact .nil
        | cons c g =>
          cases g with
          | nil => exact .cons c (.cons b (.cons a .nil))
          | cons _ _ => exact .nil
theorem kb3 {K : PySem.W.Frag} {fd : FuncData} {p1 p2 p3 k1 k2 k3 : Str} (h : ∀ (s : Shared) (a b c : Value), BindsTo s fd ⟨[], [(k1, a), (k2, b), (k3, c)]⟩ [(p1, c), (p2, b), (p3, a)]) : KBinds K fd [p1, p2, p3] [k1, k2, k3] rev3 rev3 := by
  refine ⟨fun s us ws _ hl => ?_, rev3_rel⟩
  match us, ws, hl with
  | [], [a, b, c], _ => exact h s a b c
  | [], [], hl => cases hl
  | [], [_], hl => cases hl
  | [], [_, _], hl => cases hl
  | [], _ :: _ :: _ :: _ :: _, hl => cases hl
  | _ :: _, _, hl => cases hl
end
end KP
namespace KP
open PySem PySem.Spec PyProof.Rows L2
open PySem.W (Datum Tup DatumOrd)
open FL
/-! ### the places that are served, one request after the other -/
inductive KR (m n : Nat) (acc : Nat → Nat → Prop) (stock : Nat → Int) : List Nat → List Nat → (Nat → Int) → Prop
  | nil : KR m n acc stock [] [] (fun _ => 0)
  | yes {row kept : List Nat} {c : Nat → Int} {r : Nat} (h : KR m n acc stock row kept c) (g : ∃ g left, SOk m n acc stock g left (fun u => c u + e1 r 1 u)) : KR m n acc stock (row ++ [r]) (kept ++ [row.length]) (fun u => c u + e1 r 1 u)
  | no {row kept : List Nat} {c : Nat → Int} {r : Nat} (h : KR m n acc stock row kept c) (g : Full m n acc stock c r) : KR m n acc stock (row ++ [r]) kept c
theorem KR.unique {m n : Nat} {acc : Nat → Nat → Prop} {stock : Nat → Int} {row k1 k2 : List Nat} {c1 c2 : Nat → Int} (h : KR m n acc stock row k1 c1) (g : KR m n acc stock row k2 c2) : k1 = k2 ∧ c1 = c2 := by
  induction h generalizing k2 c2 with
  | nil =>
    generalize e : ([] : List Nat) = row at g
    cases g with
    | nil => exact ⟨rfl, rfl⟩
    | yes _ _ => simp at e
    | no _ _ => simp at e
  | @yes row kept c r h hg ih =>
    generalize e : row ++ [r] = row2 at g
    cases g with
    | nil => simp at e
    | @yes row' kept' c' r' g gg =>
      obtain ⟨e1, e2⟩ := List.append_inj' e rfl
      have e2 : r = r' := by simpa using e2
      subst e1 e2
      obtain ⟨e3, e4⟩ := ih g
      subst e3 e4
      exact ⟨rfl, rfl⟩
    | @no row' kept' c' r' g gg =>
      obtain ⟨e1, e2⟩ := List.append_inj' e rfl
      have e2 : r = r' := by simpa using e2
      subst e1 e2
      obtain ⟨e3, e4⟩ := ih g
      subst e3 e4
      obtain ⟨g', left', S⟩ := hg
      exact (gg.no S).elim
  | @no row kept c r h hg ih =>
    generalize e : row ++ [r] = row2 at g
    cases g with
    | nil => simp at e
    | @yes row' kept' c' r' g gg =>
      obtain ⟨e1, e2⟩ := List.append_inj' e rfl
      have e2 : r = r' := by simpa using e2
      subst e1 e2
      obtain ⟨e3, e4⟩ := ih g
      subst e3 e4
      obtain ⟨g', left', S⟩ := gg
      exact (hg.no S).elim
    | @no row' kept' c' r' g gg =>
      obtain ⟨e1, e2⟩ := List.append_inj' e rfl
      have e2 : r = r' := by simpa using e2
      subst e1 e2
      exact ih g
def placesOf (found : List (Option Int)) : List Nat := (List.range found.length).filter fun i => decide (found.getD i none ≠ none)
theorem places_snoc (found : List (Option Int)) (o : Option Int) : placesOf (found ++ [o]) = if o ≠ none then placesOf found ++ [found.length] else placesOf found := by
  unfold placesOf
  rw [List.length_append, List.length_singleton, List.range_succ, List.filter_append]
  have e1 : (List.range found.length).filter (fun i => decide ((found ++ [o]).getD i none ≠ none)) = (List.range found.length).filter fun i => decide (found.getD i none ≠ none) := List.filter_congr fun i hi => by
    rw [List.getD_eq_getElem?_getD, List.getD_eq_getElem?_getD, List.getElem?_append_left (List.mem_range.mp hi)]
  have e2 : (found ++ [o]).getD found.length none = o := by rw [List.getD_eq_getElem?_getD, List.getElem?_append_right (Nat.le_refl _)]; simp
  rw [e1]
  by_cases h : o ≠ none
  · rw [if_pos h]
    simp only [List.filter_cons, List.filter_nil, e2, decide_eq_true h, if_true]
  · rw [if_neg h]
    simp only [List.filter_cons, List.filter_nil, e2, decide_eq_false h]
    simp
/-- in a forest the rule serves just these -/
theorem RunR.kept {lots : List (List Int)} {stock left : List Int} {row : List Nat} {found : List (Option Int)} {n : Nat} (h : RunR lots stock row found left) (hrow : ∀ r ∈ row, r < lots.length) (hl : ∀ r k, k ∈ lots.getD r [] → 0 ≤ k ∧ k < (n : Int)) (hn : stock.length = n) (hs : ∀ x ∈ stock, 0 ≤ x) (hlam : LamL lots) :
    KR lots.length n (accL lots) (gD stock) row (placesOf found) (cOf row found) := by
  induction h with
  | nil =>
    have : cOf [] [] = fun _ => 0 := by funext u; simp [cOf]
    rw [this]
    exact .nil
  | @snoc row found left r o h hr ih =>
    have hrow' : ∀ r ∈ row, r < lots.length := fun r hr => hrow r (List.mem_append_left _ hr)
    have ih := ih hrow'
    have hrl : r < lots.length := hrow r (by simp)
    obtain ⟨l1, l2⟩ := h.len
    cases o with
    | none =>
      rw [places_snoc, if_neg (by simp)]
      have : cOf (row ++ [r]) (found ++ [none]) = cOf row found := by funext u; rw [cOf_snoc l1, if_neg (by simp)]; omega
      rw [this]
      exact .no ih (h.full hrow' hl hn hs hlam hrl hr)
    | some kd =>
      rw [places_snoc, if_pos (by simp), l1]
      have : cOf (row ++ [r]) (found ++ [some kd]) = fun u => cOf row found u + e1 r 1 u := by
        funext u
        rw [cOf_snoc l1]
        unfold e1
        by_cases c : r = u
        · rw [if_pos ⟨c, by simp⟩, if_pos c.symm]
        · rw [if_neg (by rintro ⟨e, _⟩; exact c e), if_neg fun e => c e.symm]
      have S := ((RunR.snoc h hr).sok hrow hl hn hs).1
      rw [this] at S ⊢
      exact .yes ih ⟨_, _, S⟩
/-! dicts of what is gone -/
def dB (ks : List Nat) : List (Key × V) := ks.map fun (k : Nat) => (Sum.inl (k : Int), V.bl true)
theorem dB_isSome (k : Nat) : ∀ ks : List Nat, (valV (dB ks) (Sum.inl (k : Int) : Key)).isSome = decide (k ∈ ks)
  | [] => rfl
  | x :: xs => by
    show (valV ((Sum.inl (x : Int), V.bl true) :: dB xs) _).isSome = _
    by_cases e : x = k
    · subst e
      rw [valV_pos rfl, decide_eq_true (List.mem_cons_self ..)]; rfl
    · rw [valV_neg (by intro c; apply e; have := Sum.inl.inj c; omega), dB_isSome k xs]
      exact decide_eq_decide.mpr ⟨fun h => List.mem_cons_of_mem _ h, fun h => by
        rcases List.mem_cons.mp h with c | h
        · exact absurd c.symm e
        · exact h⟩
theorem dB_put {ks : List Nat} {k : Nat} (h : k ∉ ks) : putK (dB ks) (Sum.inl (k : Int)) (.bl true) = dB (ks ++ [k]) := by
  have : valV (dB ks) (Sum.inl (k : Int) : Key) = none := by
    have := dB_isSome k ks
    rw [decide_eq_false h] at this
    exact Option.isNone_iff_eq_none.mp (by rw [← Option.not_isSome, this]; rfl)
  rw [putK_new _ this]
  unfold dB
  rw [List.map_append]
  rfl
section
variable {K : PySem.W.Frag} {H : Hp} {Q : VK}
theorem w_dinB {f : Bool → Bool} {ks : List Nat} {k : Nat} {p : Addr} (h : H p = some (.dK (dB ks))) (q : Q (.bl (f (decide (k ∈ ks)))) H) : dinV f (.int k) (.ref p) H Q :=
  ⟨p, _, rfl, DGet.k (k := Sum.inl (k : Int)) h, by rw [dB_isSome]; exact q⟩
theorem w_dputB {ks : List Nat} {k : Nat} {p : Addr} {q : Hp → Prop} (h : H p = some (.dK (dB ks))) (hn : k ∉ ks) (hl : ks.length ≤ 100000) (e : q (upd H p (.dK (dB (ks ++ [k]))))) : dputV (.bl true) (.ref p) (.int k) H q :=
  ⟨p, _, rfl, .inl ⟨_, Sum.inl (k : Int), h, rfl, by rw [sizeLine_eq]; simp [dB]; omega, rfl⟩, by rw [dB_put hn]; exact e⟩
theorem w_ixQ {p : Addr} {n : Int} {v : V} {xs : List V} (h : SqL K H p xs ∨ SqT K H p xs) (e : atI xs n = some v) (q : Q v H) : rIx K (.ref p) (.int n) H Q := by
  rcases h with h | h
  · exact .inl ⟨p, xs, n, v, rfl, rfl, h, e, q⟩
  · exact .inr (.inl ⟨p, xs, n, v, rfl, rfl, h, e, q⟩)
theorem ix_seqK {X : Cx} (K : PySem.W.Frag) (h : X.K = K) : IxR X (rIx K) := h ▸ ix_seq
end
def spPlaces (K : PySem.W.Frag) : Sp := fun vs H Q _ => ∃ (v : V) (found : List (Option Int)), vs = [v] ∧ Is K H v (Tup.mk found) ∧ found.length ≤ 100000 ∧ ∀ (H' : Hp) (p : Addr), Kp [] H H' → H' p = some (.lst ((nI (placesOf found)).map V.int)) → Q (.ref p) H'
def spRuleL (K : PySem.W.Frag) : Sp := fun vs H Q _ => ∃ (l c x : Addr) (lots : List (List Int)) (left : List Int) (r n : Nat), vs = [.ref l, .ref c, .ref x, .int r] ∧ LotsR K H l lots ∧ SqL K H c ((nI ((List.range n).map fun (k : Nat) => cntT lots (k : Int))).map V.int) ∧ (SqL K H x (left.map V.int) ∨ SqT K H x (left.map V.int)) ∧
  left.length = n ∧ n ≤ 1000 ∧ r < lots.length ∧ (∀ t ∈ lots, listB t n = true) ∧ ∀ v H' o, Kp [] H H' → RuleR lots left r o → Is K H' v o → Q v H'
def spKept (K : PySem.W.Frag) : Sp := fun vs H Q _ => ∃ (l p : Addr) (vr : V) (lots : List (List Int)) (stock : List Int) (row : List Nat), vs = [.ref l, .ref p, vr] ∧ LotsR K H l lots ∧ (∃ o, H l = some o) ∧ (SqL K H p (stock.map V.int) ∨ SqT K H p (stock.map V.int)) ∧ Is K H vr (Tup.mk (nI row)) ∧ lots.length ≤ 1000 ∧ stock.length ≤ 1000 ∧ row.length ≤ 10000 ∧ (∀ t ∈ lots, listB t stock.length = true) ∧ (∀ x ∈ stock, 0 ≤ x) ∧ (∀ r ∈ row, r < lots.length) ∧
  ∀ (H' : Hp) (q : Addr) (kept : List Nat) (c : Nat → Int), Kp [] H H' → H' q = some (.lst ((nI kept).map V.int)) → KR lots.length stock.length (accL lots) (gD stock) row kept c → Q (.ref q) H'
theorem StR.ex {H : Hp} {S L G : Addr} {gs : List Addr} {left : List Int} {gives : List (List Int)} (h : StR H S L G gs left gives) : ∀ x ∈ S :: L :: G :: gs, ∃ o, H x = some o := fun x hx => by
  rcases List.mem_cons.mp hx with e | hx
  · rw [e]; exact ⟨_, h.hS⟩
  · rcases List.mem_cons.mp hx with e | hx
    · rw [e]; exact ⟨_, h.hL⟩
    · rcases List.mem_cons.mp hx with e | hx
      · rw [e]; exact ⟨_, h.hG⟩
      · obtain ⟨i, hi⟩ := List.mem_iff_getElem?.mp hx
        obtain ⟨r, _, _, h3⟩ := h.row i x hi
        exact ⟨_, h3⟩
theorem gD_rep (n k : Nat) : gD (List.replicate n (0 : Int)) k = 0 := by
  unfold gD
  rw [List.getD_eq_getElem?_getD, List.getElem?_replicate]
  by_cases h : k < n
  · rw [if_pos h]; rfl
  · rw [if_neg h]; rfl
theorem gG_rep (m n u k : Nat) : gG (List.replicate m (List.replicate n (0 : Int))) u k = 0 := by
  unfold gG
  rw [List.getD_eq_getElem?_getD, List.getElem?_replicate]
  by_cases h : u < m
  · rw [if_pos h]; exact gD_rep n k
  · rw [if_neg h]; rfl
theorem sok_zero {m n : Nat} {acc : Nat → Nat → Prop} {stock : List Int} (hn : stock.length = n) (hs : ∀ x ∈ stock, 0 ≤ x) : SOk m n acc (gD stock) (gG (List.replicate m (List.replicate n (0 : Int)))) (gD stock) (fun _ => 0) := by
  refine ⟨fun u k _ _ => by rw [gG_rep]; exact Int.le_refl _, fun u k _ _ h => by rw [gG_rep] at h; omega, fun k hk => ?_, fun k hk => ?_, fun u hu => ?_⟩
  · have : stock[k]? = some stock[k] := List.getElem?_eq_getElem (by omega)
    rw [gD_get this]; exact hs _ (List.getElem_mem _)
  · rw [sumR_congr m (g := fun _ => 0) fun i _ => gG_rep m n i k, sumR_zero]; omega
  · rw [sumR_congr n (g := fun _ => 0) fun i _ => gG_rep m n u i, sumR_zero]
end KP
set_option maxHeartbeats 2000000
namespace PySem
namespace KPX
open PySem.W PySem.Calls PyProof.Rows PySem.HandSPX
/-- super().__init__(m); self.f = arg -/
def supBody (m f arg : Str) (p0 p1 p2 p3 p4 p5 q1 q2 q3 q4 : Pos) (j : Nat) : List Stmt :=
  [.Expr (.Call (.Attribute (.Call (.Name "super" p0) [] [] p1) "__init__" p2) [.Constant (.str m) j p3] [] p4) p5, .Assign [.Attribute (.Name "self" q1) f q2] (.Name arg q3) q4]
def supArgs (arg : Str) (p1 p2 : Pos) : Arguments := { posonlyargs := [], args := [{ arg := "self", annotation := none, pos := p1 }, { arg := arg, annotation := none, pos := p2 }], vararg := none, kwonlyargs := [], kw_defaults := [], kwarg := none, defaults := [] }
/-- a look at the scope -/
def supScope (sc : Scope) (arg : Str) : Bool := decide (sc.kind = .function) && !sc.isCoroutine && !sc.isGenerator && sc.names.all (fun y => !decide (y.2 = .cell)) && decide (sc.names.lookup ("self" : Str) = some .local) && decide (sc.names.lookup arg = some .local)
  && decide (sc.names.lookup ("super" : Str) = some .globalImplicit) && decide (sc.names.lookup ("__class__" : Str) = some .free) && decide (arg ≠ "self") && !(arg == ("__debug__" : Str))
/-- what the written part says of the class at C, named x, whose __init__(self, arg) says super().__init__(m); self.f = arg -/
structure SupX (P : Program) (K : Frag) (mg : Str → Option Value) (x f : Str) (C : Addr) : Prop where
  gC : mg x = some (.ref C)
  cls : ∃ nm q N bs bm sn sub ab col dd k0 k1 k2 k3 k5, K.lookup C = some (excClassObj nm q C N bs bm true sn sub ab col dd k0 k1 k2 k3 k5 "ValueError.__new__") ∧ refsVE bm = true
  sa : findIn K (.ref C) "__setattr__" = some (some (.builtin "object.__setattr__"))
  ga : findIn K (.ref C) "__getattribute__" = some (some (.builtin "BaseException.__getattribute__"))
  gg : findIn K (.ref C) "__getattr__" = some none
  noF : findIn K (.ref C) f = some none
  kC : keepIn K (.ref C) = true
  exC : subIn K (.ref C) (.type "BaseException") = some true
  tyC : typeIn K (.ref C) = some (.type "type")
  hdC : hasDictIn K C = true
  sup : ks_superIn K C C "__init__" = some (some (.builtin "ValueError.__init__"))
  subV : subIn K (.ref C) (.type "ValueError") = some true
  slf : mroIn K C (.ref C) = some true
  ms : mg "super" = none
  opq : nsIn K cStatics "thirdparty.any" = some none
  top : (P.main.scope.names.lookup ("super" : Str)).isSome = false
  fn : ∃ (fI cc cda : Addr) (m arg qual : Str) (oc : Value) (od : Option Addr) (kV doc pm : Value) (an : Option Addr) (ct : Value) (osl : Array (Option Value)) (cl : Value) (cld : Option Addr) (csl : Array (Option Value)) (ccl : Value) (cdd : Option Addr) (vs : Array Value) (ccs : Array (Option Value)) (file : Str) (tf : Tok) (sc : Scope) (a1 a2 p0 p1 p2 p3 p4 p5 q1 q2 q3 q4 : Pos) (j : Nat),
    findIn K (.ref C) "__init__" = some (some (.ref fI)) ∧ typeIn K (.ref fI) = some (.type "function") ∧
    K.lookup fI = some ⟨oc, od, .func (fnX "__init__" qual (supArgs arg a1 a2) (supBody m f arg p0 p1 p2 p3 p4 p5 q1 q2 q3 q4 j) sc [("__class__", cc)] .none kV doc pm an (.ref cda) ct), osl⟩ ∧ codeIn K (.ref cda) qual = true ∧
    K.lookup cc = some ⟨cl, cld, .cell (some (.ref C)), csl⟩ ∧ K.lookup cda = some ⟨ccl, cdd, .fields vs, ccs⟩ ∧ vs[2]? = some (.str file tf) ∧ ((P.main.file : Str) == file) = true ∧ supScope sc arg = true ∧
    (∀ u v, bindArgs (fnX "__init__" qual (supArgs arg a1 a2) (supBody m f arg p0 p1 p2 p3 p4 p5 q1 q2 q3 q4 j) sc [("__class__", cc)] .none kV doc pm an (.ref cda) ct) ⟨[u, v], []⟩ = pure [(("self" : Str), u), (arg, v)]) ∧
    ∃ pl : Env → Sem Bool, ∀ env : Env, eval (.Call (.Attribute (.Call (.Name ("super" : Str) p0) [] [] p1) ("__init__" : Str) p2) [.Constant (.str m) j p3] [] p4) env = (do
      let ov ← attributeBase (.Call (.Name "super" p0) [] [] p1) "__init__" env (eval (.Call (.Name "super" p0) [] [] p1) env)
      standAt p2.atName
      let (f, first) ← holding [ov] (getMethod ov "__init__" (pl env))
      callWith p4 f first (backTo p4 (starEach [.Constant (.str m) j p3] env)) [])
theorem kept_but {K : Frag} {h h' : Heap} {x : Addr} (X : K.In h) (hx : K.lookup x = none) (k : ∀ b o, b ≠ x → h.get? b = some o → h'.get? b = some o) : K.In h' := fun a o e =>
  k a o (fun z => by rw [z, hx] at e; cases e) (X a o e)
theorem nolook {K : Frag} {h : Heap} {a : Addr} (X : K.In h) (ha : h.objs.size ≤ a) : K.lookup a = none := by
  cases e : K.lookup a with
  | none => rfl
  | some o =>
    have z : h.get? a = some o := X _ _ e
    exact absurd (Heap.lt_size z) (Nat.not_lt.mpr ha)
section
variable {prog : Program} {w : World} {A : Around} {E : Value → Shared → Prop} {h : Heap} {g : Array GenState} {d : Drawn} {t : Nat} {os : OsState}
variable {nm q : Str} {C N : Addr} {bs bm : List Value} {hdct : Bool} {sn : List Str} {sub : List Value} {ab : Bool} {col : Option Bool} {dd : Option Addr} {k0 k1 k2 k3 k5 : Option Value}
/-- ValueError.__init__ bound to e, called -/
theorem call_mwV {u e t0 : Addr} {rest : List Value} {Q : Value → Shared → Prop}
    (hC : h.get? C = some (excClassObj nm q C N bs bm hdct sn sub ab col dd k0 k1 k2 k3 k5 "ValueError.__new__")) (he : h.get? e = some (excO C t0)) (hu : h.get? u = some (kxs_mw "ValueError.__init__" e)) (hrest : rest.length ≤ sizeLine)
    (hq : ∀ h' t1, (∀ b o, b ≠ e → h.get? b = some o → h'.get? b = some o) → h'.get? e = some (excO C t1) → Q .none ⟨h', g, d, t, os⟩) :
    wpAny (model prog w) A (call (.ref u) rest) Q E ⟨h, g, d, t, os⟩ := by
  refine wpAny_call (codeAny_of_tree ?_)
  show wpAny _ A.in1 (callAny (.ref u) ⟨rest, []⟩) _ _ _
  simp only [callAny]
  refine wpAny_bind (wpAny_load hu ?_)
  simp only [kxs_mw, show (Value.type "method-wrapper" == Value.type "method" || Value.type "method-wrapper" == Value.type "builtin_function_or_method" || Value.type "method-wrapper" == Value.type "method-wrapper") = true by decide, if_true]
  refine KFB.if_so (by decide) ?_
  refine wpAny_bind (check_bound_init F.excBase_ValueError.toExcCallFacts hC he rfl ?_)
  refine wpAny_bind (wpAny_pure (wpAny_pure ?_))
  refine ⟨plainId_quiet F.excBase_ValueError.init.plain _, codeAny_builtin F.excBase_ValueError.initEntry ?_⟩
  exact exc_init_tree (cls := .ref C) (t0 := t0) (dv := none) (c2 := .none) (c3 := .none) (b4 := .bool false) he hrest fun h' k e' _ => hq h' _ k e'
end
/-- what __init__ leaves of a fresh exception at x -/
structure InitEnd (h h' : Heap) (x C dx t1 : Addr) (f : Str) (v : Value) : Prop where
  keep : ∀ b o, b ≠ x → h.get? b = some o → h'.get? b = some o
  obj : h'.get? x = some { cls := .ref C, dict := some dx, data := .fields #[.ref t1, .none, .none, .none, .bool false, .none] }
  dbig : h.objs.size ≤ dx
  dne : dx ≠ x
  ns : h'.Ns1 dx (fun y => if y = f then some v else none)
/-- a made exception -/
structure OwnMade (h h' : Heap) (e C d : Addr) (f : Str) (v : Value) : Prop where
  keep : ∀ b o, h.get? b = some o → h'.get? b = some o
  new : h.objs.size ≤ e
  obj : ∃ oe vs, h'.get? e = some oe ∧ oe.cls = .ref C ∧ oe.dict = some d ∧ oe.data = .fields vs ∧ vs[1]? = some .none
  dbig : h.objs.size ≤ d
  dne : d ≠ e
  ns : h'.Ns1 d (fun y => if y = f then some v else none)
section
variable {prog : Program} {w : World} {A : Around} {E : Value → Shared → Prop} {R : Result → Shared → Prop} {s : Shared} {K : Frag} {mg : Str → Option Value} {x f : Str} {C : Addr}
theorem sup_init (T : SupX prog K mg x f C) {fI e t0 : Addr} {v : Value} (hI : findIn K (.ref C) "__init__" = some (some (.ref fI))) (X : K.In s.heap) (G : s.heap.Ns mainGlobals mg) (B : ∃ mb, s.heap.Ns builtinsNs mb ∧ mb "super" = some (.type "super")) (hlim : s.heap.NoLimit) (hx : s.heap.get? e = some (excO C t0)) (hnx : K.lookup e = none) (hroom : A.depth < recursionLimit)
    (hq : ∀ h' tk dx t1, InitEnd s.heap h' e C dx t1 f v → R (.ok (.ret .none)) { s with heap := h', toks := tk }) :
    codeAny (model prog w) A (.call (.ref fI) ⟨[.ref e, v], []⟩) R s := by
  obtain ⟨fI', cc, cda, m, arg, qual, oc, od, kV, doc, pm, an, ct, osl, cl, cld, csl, ccl, cdd, vs, ccs, file, tf, sc, a1, a2, p0, p1, p2, p3, p4, p5, q1, q2, q3, q4, j, hI', hTy, ho, hcd, hcell, hcode, hvs, hfile, hsc, hbd, pl, hev⟩ := T.fn
  rw [hI] at hI'
  cases hI'
  obtain ⟨nm, q, N, bs, bm, sn, sub, ab, col, dd, k0, k1, k2, k3, k5, hC, hbm⟩ := T.cls
  have hcl : clsIn K C = some { name := nm, bases := bs, mro := .ref C :: bm, ns := N, qualname := q, hasDict := true, slotNames := sn, subclasses := sub, abstract := ab, collection := col, hasDel := false } := by unfold clsIn; rw [hC] <;> rfl
  unfold supScope at hsc
  simp only [Bool.and_eq_true, Bool.not_eq_true', decide_eq_true_eq, List.all_eq_true, decide_eq_false_iff_not] at hsc
  obtain ⟨⟨⟨⟨⟨⟨⟨⟨⟨z1, z2⟩, z3⟩, z4⟩, z5⟩, z6⟩, z7⟩, z8⟩, z9⟩, z10⟩ := hsc
  obtain ⟨mb, hB, hmb⟩ := B
  obtain ⟨hp, g, d, t, os⟩ := s
  have hxL : hp.objs.size ≠ e := Nat.ne_of_gt (Heap.lt_size hx)
  refine ks_codeAny_call_defAt (fd := fnX "__init__" qual (supArgs arg a1 a2) (supBody m f arg p0 p1 p2 p3 p4 p5 q1 q2 q3 q4 j) sc [("__class__", cc)] .none kV doc pm an (.ref cda) ct) (body := supBody m f arg p0 p1 p2 p3 p4 p5 q1 q2 q3 q4 j) (binds := [("self", .ref e), (arg, v)])
    hroom (X _ _ ho) rfl hlim (codeRec_of X hcd) rfl (BindsTo.of_eq (hbd _ _)) (fun y hy => z4 y hy) (fun y hy => ?_) (fun h₁ hn k => ?_) z2 z3 z1
  · rcases List.mem_cons.mp hy with rfl | hy
    · exact z5
    · rw [List.mem_singleton.mp hy]; exact z6
  have X₁ : K.In h₁ := X.keeps k
  have hx₁ := k _ _ hx
  have ml : ∀ y : Str, (List.reverse [(("self" : Str), Value.ref e), (arg, v)]).lookup y = if y = arg then some v else if y = "self" then some (.ref e) else none := fun y => by
    show List.lookup y [(arg, v), (("self" : Str), Value.ref e)] = _
    by_cases h1 : y = arg
    · subst h1; simp [List.lookup]
    · have e1 : (y == arg) = false := by simpa using h1
      by_cases h2 : y = "self"
      · subst h2; simp [List.lookup, e1, h1]
      · have e2 : (y == ("self" : Str)) = false := by simpa using h2
        simp [List.lookup, e1, e2, h1, h2]
  have ms := (ml "self").trans ((if_neg fun z => z9 z.symm).trans (if_pos rfl))
  have ma := (ml arg).trans (if_pos rfl)
  show _root_.PySem.wpAt _ _ _ (execs _ _) _ _ _
  refine ks_wpAt_execs_cons (ks_wpAt_Expr_any (ks_wpAt_MethodCall (pl := pl _) ?_ (hev _)) (hi := by show (sc.kind == .module && _) = false; rw [z1]; rfl))
  refine ks_wpAt_super_base z7 z8 (by decide) rfl (X₁ _ _ ho) rfl rfl rfl (X₁ _ _ hcode) rfl hvs hfile T.top ?_
  refine ks_loadName_global z1 z7 (loadGlobal_builtin (G.keeps k) T.ms (hB.keeps k) hmb ⟨rfl, ?_⟩)
  refine wpAny_loadName_free z1 z8 rfl ⟨_, X₁ _ _ hcell, rfl⟩ ?_
  refine wpAny_loadName_local z1 z5 hn ms ?_
  refine ks_wpAny_isType_cls (X₁ _ _ hC) rfl ⟨rfl, ?_⟩
  refine ks_wpAny_call_super (X₁ _ _ hC) rfl hx₁ rfl (fun c z => nomatch z) (looks_mroIn X₁ T.slf) (fun h2 e2 kk => ?_)
  have X₂ : K.In h2 := X₁.keeps kk
  have hx₂ := kk _ _ hx₁
  have hn₂ := hn.keeps kk
  have hxC : e ≠ C := fun z => by rw [z, hC] at hnx; cases hnx
  refine kxs_getMethod kxs_ValueError e2 (looks_opaque X₂ T.opq) (l₀ := .ref C :: bm) (fun A Q E s k q => wpAny_bind ((looks_clsIn X₂ hcl) A _ E s k (wpAny_pure q))) rfl X₂ ?_ ?_ hxC (by decide) ?_
  · have := T.sup
    unfold ks_superIn at this
    rw [hcl] at this
    exact this
  · have I : InstAt h2 e (excO C t0) C none := ⟨hx₂, rfl, rfl, trivial⟩
    exact I.type.andThen (looks_subIn X₂ T.subV)
  have k3 : ∀ b o, h2.get? b = some o → (h2.push (kxs_mw "ValueError.__init__" e)).get? b = some o := fun b o z => Heap.get?_push_of_some _ z
  have hmw : (h2.push (kxs_mw "ValueError.__init__" e)).get? h2.objs.size = some (kxs_mw "ValueError.__init__" e) := Heap.get?_push_at rfl rfl
  show wpAny _ _ (callWith _ (.ref h2.objs.size) [] (backTo _ (starEach [_] _)) []) _ _ _
  refine kxs_callWith (i := "ValueError.__init__") (x := e) rfl (evalArgs_plain (rest := []) (spliced_cons (Calls.Constant_str (pos := p3) (k := j) (spliced_nil ⟨hmw, ?_⟩))))
  refine call_mwV (X₂.keeps k3 _ _ hC) (k3 _ _ hx₂) hmw (by show 1 ≤ sizeLine; decide) fun h4 t1 k4 he4 => ?_
  have X₄ : K.In h4 := kept_but (X₂.keeps k3) hnx k4
  have hn₄ := (hn₂.keeps k3).at fun o z => k4 _ _ hxL z
  show _root_.PySem.wpAt _ _ _ (execs _ _) _ _ _
  refine wpAt_of_wpAny (wpAny_execs_cons (plainObj_wpAny_Assign_Attribute ?_))
  refine wpAny_Name (wpAny_loadName_local z1 z6 hn₄ ma ?_) z10
  refine wpAny_Name (wpAny_loadName_local z1 z5 hn₄ ms ?_) (by decide)
  refine set_plain X₄ (ox := excO C t1) (od := none) ⟨he4, rfl, rfl, trivial⟩ T.sa ?_
  refine exc_osa X₄ he4 hcl (show refsVE (.ref C :: bm) = true from hbm) rfl T.noF (fun h₃ tk₃ dx k₃ dn dne hx₃ hn₃ => ?_)
  refine wpAny_execs_nil (hq h₃ tk₃ dx t1 ⟨fun b o hb z => k₃ b o hb (k4 b o hb (k3 _ _ (kk _ _ (k b o z)))), hx₃, ?_, dne, hn₃⟩)
  refine Nat.le_trans ?_ dn
  have z : hp.objs.size < h4.objs.size := hn₄.lt
  exact Nat.le_of_lt z
theorem sup_made (T : SupX prog K mg x f C) {v : Value} (X : K.In s.heap) (G : s.heap.Ns mainGlobals mg) (B : ∃ mb, s.heap.Ns builtinsNs mb ∧ mb "super" = some (.type "super")) (hlim : s.heap.NoLimit) (hroom : A.depth + 1 < recursionLimit)
    (hq : ∀ h' tk e d, OwnMade s.heap h' e C d f v → R (.ok (.ret (.ref e))) { s with heap := h', toks := tk }) :
    codeAny (model prog w) A (.call (.ref C) ⟨[v], []⟩) R s := by
  obtain ⟨fI, cc, cda, m, arg, qual, oc, od, kV, doc, pm, an, ct, osl, cl, cld, csl, ccl, cdd, vs, ccs, file, tf, sc, a1, a2, p0, p1, p2, p3, p4, p5, q1, q2, q3, q4, j, hI, hTy, _⟩ := T.fn
  obtain ⟨nm, q, N, bs, bm, sn, sub, ab, col, dd, k0, k1, k2, k3, k5, hC, hbm⟩ := T.cls
  obtain ⟨hp, g, dr, tk, os⟩ := s
  have k : ∀ b o, hp.get? b = some o → ((hp.push (kdv_tup [v])).push (excO C hp.objs.size)).get? b = some o := fun b o e => Heap.get?_push_of_some _ (Heap.get?_push_of_some _ e)
  have hget : ((hp.push (kdv_tup [v])).push (excO C hp.objs.size)).get? (hp.objs.size + 1) = some (excO C hp.objs.size) := by heap_get
  have hnx : K.lookup (hp.objs.size + 1) = none := nolook X (Nat.le_succ _)
  obtain ⟨mb, hB, hmb⟩ := B
  refine call_own F.excBase_ValueError (fun X => refsVE_contains X bm hbm) (X _ _ hC) (looks_findIn X hI) (fun self => bind_fn X self hTy) (by show 1 ≤ sizeLine; decide) ?_
  refine sup_init (s := ⟨(hp.push (kdv_tup [v])).push (excO C hp.objs.size), g, dr, tk, os⟩) T hI (X.keeps k) (G.keeps k) ⟨mb, hB.keeps k, hmb⟩ (hlim.keeps k) hget hnx ?_ fun h' tk' dx t1 ⟨k', hx, dn, dne, hns⟩ => ?_
  · show A.depth + 1 < recursionLimit
    exact hroom
  · have old : ∀ b o, hp.get? b = some o → h'.get? b = some o := fun b o e => k' b o (Nat.ne_of_lt (Nat.lt_succ_of_lt (Heap.lt_size e))) (k b o e)
    have z : hp.objs.size + 1 + 1 ≤ dx := by
      first
        | (simpa only [Heap.size_push] using dn)
        | exact dn
        | (have q := dn; rw [Heap.size_push, Heap.size_push] at q; exact q)
    exact ⟨rfl, hq h' tk' (hp.objs.size + 1) dx ⟨old, Nat.le_succ _, ⟨_, _, hx, rfl, rfl, rfl, rfl⟩, Nat.le_trans (Nat.le_trans (Nat.le_succ _) (Nat.le_succ _)) z, dne, hns⟩⟩
end
end KPX
end PySem
namespace PySem
namespace KPX
open PySem.W PySem.Calls PyProof.Rows
section
variable {prog : Program} {w : World} {A : Around} {E : Value → Shared → Prop} {s : Shared} {K : Frag} {x D : Addr} {ox : Obj} {od : Option Obj}
theorem findObj_dataA {C : Addr} {name : Str} {a g : Value} (hc : (clsIn K C).isSome = true) (ha : findIn K (.ref C) name = some (some a)) (hg : specialIn K a "__get__" = some (some g)) (ht : takesIn K a = some true) : findObj K C od name = some (.bind g a) := by
  obtain ⟨cd, hc⟩ := Option.isSome_iff_exists.mp hc
  unfold findObj
  rw [hc, Option.bind_some, ha, Option.bind_some]
  simp [hg, ht]
theorem kin_classA {Q : Option Value → Shared → Prop} (hga : findIn K (.ref D) "__getattribute__" = some (some (.builtin "BaseException.__getattribute__"))) (hgt : findIn K (.ref D) "__getattr__" = some none) (hsub : subIn K (.ref D) (.type "BaseException") = some true)
    (hdct : hasDictIn K D = true) (ha : findIn K (.ref D) "__class__" = some (some (.builtin "object.__class__")))
    (hn : specialIn K (.builtin "object.__class__") "__get__" = some (some (.builtin "getset_descriptor.__get__"))) (htk : takesIn K (.builtin "object.__class__") = some true) (hm : mroIn K D (.type "object") = some true)
    (X : K.In s.heap) (I : InstAt s.heap x ox D od) (h : Q (some (.ref D)) { s with toks := s.toks + 1 }) : wpAny (model prog w) A (getAttr? (.ref x) "__class__") Q E s := by
  have hf : findObj K D od "__class__" = some (.bind (.builtin "getset_descriptor.__get__") (.builtin "object.__class__")) := findObj_dataA (by obtain ⟨cd, hc, _⟩ := any_some hdct; rw [hc]; rfl) ha hn htk
  obtain ⟨hp, g, d, t, os⟩ := s
  have L0 := I.type (M := model prog w)
  have L1 := looks_findIn (M := model prog w) X hga
  have L2 := looks_findIn (M := model prog w) X hgt
  have L3 := looks_find (M := model prog w) X I hf
  have sub : Looks (model prog w) hp (isInstance (.ref x) (.type "BaseException")) true := L0.andThen (looks_subIn X hsub)
  have hx0 : (false && onTheHeap (Value.builtin "BaseException.__getattribute__")) = false := rfl
  have hx2 : (Value.builtin "BaseException.__getattribute__" == Value.builtin "object.__getattribute__") = false := by decide +kernel
  have hx1 : (onTheHeap (Value.ref D) && Value.builtin "BaseException.__getattribute__" == Value.builtin "object.__getattribute__") = false := by rw [hx2]; rfl
  unfold getAttr? getAttrBy? getAttrBy
  refine wpAny_bind (wpAny_mkText (wpAny_bind (wpAny_attempt (wpAny_holding (wpAny_bind (L0.at (wpAny_bind (L1.at ?_))))))))
  show wpAny _ _ (if (onTheHeap (Value.ref D) && Value.builtin "BaseException.__getattribute__" == Value.builtin "object.__getattribute__") = true then _ else _) _ _ _
  rw [hx1, if_neg Bool.false_ne_true]
  unfold getAttrByItsOwn hookBefore
  refine wpAny_bind ?_
  rw [if_pos (show onTheHeap (Value.ref D) = true from rfl)]
  refine L2.at ?_
  refine wpAny_bind (wpAny_attempt (wpAny_holding ?_))
  unfold callGetattribute
  rw [hx0, if_neg Bool.false_ne_true]
  unfold boundAndCalled
  rw [PySem.F.excAttr_ValueError.ga.bind (.ref x)]
  refine wpAny_bind (wpAny_pure ?_)
  show wpAny _ _ (call (.builtin "BaseException.__getattribute__") [.ref x, .str "__class__" t]) _ _ _
  refine wpAny_call (codeAny_call_builtin PySem.F.excAttr_ValueError.ga.plain PySem.F.entry_bexc_ga ?_)
  refine @check_slot (model prog w) _ _ ⟨hp, g, d, t + 1, os⟩ "BaseException.__getattribute__" "BaseException" "__getattribute__" (.ref x) [.str "__class__" t] [] _ (by decide +kernel) (by decide +kernel) sub (PySem.F.args_bexc_ga (.ref x) (.str "__class__" t)) ?_
  unfold Builtin.«object.__getattribute__»
  refine wpAny_bind (wpAny_of_eq (a := ((Value.ref x : Value), [Value.str "__class__" t])) (by first | rfl | (simp only [slotArgs]; rfl)) ?_)
  refine wpAny_bind (wpAny_pure (wpAny_bind (L0.at (wpAny_bind (L3.at ?_)))))
  show wpAny _ _ (holding [Value.builtin "object.__class__"] (call (.builtin "getset_descriptor.__get__") [.builtin "object.__class__", .ref x, .ref D]) >>= ret) _ _ _
  refine wpAny_bind (wpAny_holding (wpAny_call (class_get (s := ⟨hp, g, d, t + 1, os⟩) (ox := ox) (od := od) X I hm ?_)))
  refine wpAny_pure ?_
  show wpAny _ _ (handedOut (.ref D)) _ _ _
  rw [handedOut_of (v := .ref D) rfl]
  first
    | exact wpAny_pure (wpAny_pure h)
    | exact wpAny_pure h
    | exact wpAny_pure (wpAny_bind (wpAny_pure (wpAny_pure h)))
theorem kitx_excA (hga : findIn K (.ref D) "__getattribute__" = some (some (.builtin "BaseException.__getattribute__"))) (hgt : findIn K (.ref D) "__getattr__" = some none) (hsub : subIn K (.ref D) (.type "BaseException") = some true) (hdct : hasDictIn K D = true) (ha : findIn K (.ref D) "__class__" = some (some (.builtin "object.__class__")))
    (hn : specialIn K (.builtin "object.__class__") "__get__" = some (some (.builtin "getset_descriptor.__get__"))) (htk : takesIn K (.builtin "object.__class__") = some true) (hm : mroIn K D (.type "object") = some true) :
    KitX K (.ref x) (.ref D) (fun h => ∃ od, InstAt h x ox D od) where
  ty := fun _ _ _ ⟨_, I⟩ => I.type
  it := fun _ _ X _ => by
    obtain ⟨cdD, hcD, _⟩ := any_some hdct
    unfold clsIn at hcD
    split at hcD
    · rename_i c' d' cd' sl' ho
      intro A' Q' E' s' k q
      unfold isType loadHead
      exact wpAny_bind (wpAny_loadPart (k _ _ (X _ _ ho)) (wpAny_pure q))
    · cases hcD
  ne := fun h tp dd its n sl X htp => by
    obtain ⟨cdD, hcD, _⟩ := any_some hdct
    refine Bool.eq_false_iff.mpr fun q => ?_
    have e : D = tp := Value.ref.inj (beq_iff_eq.mp q)
    subst e
    unfold clsIn at hcD
    split at hcD
    · rename_i c' d' cd' sl' ho
      have z := (X _ _ ho).symm.trans htp
      cases z
    · cases hcD
  ca := fun X ⟨_, I⟩ k => kin_classA hga hgt hsub hdct ha hn htk hm X I k
end
end KPX
end PySem
namespace KP
open PySem PySem.Spec PyProof.Rows L2
/-! ### raising -/
section
variable {X : Cx} {C : Addr} {x f : Str}
/-- x(e), x a class as in SupX -/
def tMkF (C : Addr) (f : Str) (ta : TA) : L2.St → Hp → XK → Prop := fun σ H Q => ta σ H fun vs H1 => ∃ v, vs = [v] ∧ ∀ d, H1 d = none → Q (.ref C) (some d) (upd H1 d (.xd [(f, v)]))
theorem relO_one {v : V} {v' : Value} (r : RelV v v') (g : Str) : RelO (List.lookup g [(f, v)]) (if g = f then some v' else none) := by
  by_cases hw : g = f
  · subst hw
    rw [if_pos rfl]
    have q : List.lookup g [(g, v)] = some v := by simp [List.lookup]
    rw [q]
    exact r
  · rw [if_neg hw]
    have qw : (g == f) = false := by simpa using hw
    have q2 : List.lookup g [(f, v)] = none := by simp [List.lookup, qw]
    rw [q2]
    trivial
theorem pmk_sup {a : Expr} {ta : TA} {p pos : Pos} {k j : Nat} (T : PySem.KPX.SupX X.prog X.K X.mg x f C) (hr : Room j X.A) (ha : PA X [a] ta) (hg : Gl X x) (hd : (x == ("__debug__" : Str)) = false := by decide)
    (he : starEach (a :: []) X.env = (false, eval a X.env) :: starEach [] X.env := by rfl) (hpl : (backTo pos (starEach [] X.env)).any (·.1) = false := by rfl) :
    PMk X (.Call (.Name x p) [a] [] pos) (tMkF C f ta) := by
  intro pins s σ H Q I h
  refine wpAny_Call_Name_kw (ld_glob I hg T.gC ?_ hd)
  refine PySem.W.callWith_K (h₀ := X.base) I.ok.mod.kin T.kC (thn (ha.run pos pins s σ H _ I h) fun us s1 hh => ?_) he hpl
  obtain ⟨vs, H1, I1, r1, v, ev, q1⟩ := hh
  subst ev
  refine ⟨I1.kIn, ?_⟩
  cases r1 with
  | cons rv rn =>
    rename_i v' us'
    cases rn
    show wpAny _ _ (call (.ref C) [v']) _ _ _
    have hlim := I1.nolimit
    have hG : s1.heap.Ns mainGlobals X.mg := I1.mod.glob.keeps I1.bk
    obtain ⟨mb, hb1, hb2⟩ := I1.mod.blt
    have hB : ∃ mb, s1.heap.Ns builtinsNs mb ∧ mb "super" = some (.type "super") := ⟨mb, hb1.keeps I1.bk, (hb2 _ (by decide)).trans (by decide +kernel)⟩
    obtain ⟨hp, g, dr, tk, os⟩ := s1
    refine wpAny_call (PySem.KPX.sup_made T I1.kIn hG hB hlim (by have := hr.dp; omega) fun h' tk' e d M => ?_)
    show MkP X pins σ Q (.ref e) ⟨h', g, dr, tk', os⟩
    obtain ⟨oe, fv, hoe, hc, hd, hdat, h1⟩ := M.obj
    have hns := M.ns
    obtain ⟨G', g1, g2⟩ := restrict h' fun b => decide (b ≠ e)
    have gk : ∀ b, b ≠ e → G'.get? b = h'.get? b := fun b hb => g1 b (decide_eq_true hb)
    have ge : G'.get? e = none := g2 e (by simp)
    have old : ∀ b o, hp.get? b = some o → G'.get? b = some o := fun b o q => (gk b (Nat.ne_of_lt (Nat.lt_of_lt_of_le (Heap.lt_size q) M.new))).trans (M.keep b o q)
    have ob : ObjOk X.prog X.w (upd H1 d (.xd [(f, v)])) G' d (.xd [(f, v)]) :=
      ⟨_, hns.at (fun o q => (gk d M.dne).trans q), fun g => relO_one rv g⟩
    have J : Inv X pins σ (upd H1 d (.xd [(f, v)])) ⟨G', g, dr, tk', os⟩ := I1.laid (t' := tk') old M.dbig ob
    refine ⟨e, oe, fv, ⟨G', g, dr, tk', os⟩, _, .ref C, some d, rfl, J, fun b o q => ?_, ge, hoe, ⟨hc, hd⟩, hdat, h1, ?_, rfl, I1.bare, raises_own T.exC T.tyC, q1 d (I1.hok.fresh M.dbig)⟩
    · by_cases hb : b = e
      · have q' : G'.get? b = some o := q
        rw [hb, ge] at q'; cases q'
      · exact (gk b hb).symm.trans q
    · rw [upd_ne (Ne.symm M.dne)]
      exact I1.hok.fresh M.new
/-- raise x(e) -/
def tRaiseF (C : Addr) (f : Str) (W : WX) (ta : TA) : TS := fun _ σ H => ta σ H fun vs H1 => ∃ v, vs = [v] ∧ ∀ d, H1 d = none → W (.ref C) (some d) σ (upd H1 d (.xd [(f, v)]))
theorem ps_raiseF {a : Expr} {ta : TA} {W : WX} {p pos pos2 : Pos} {k j : Nat} (T : PySem.KPX.SupX X.prog X.K X.mg x f C) (hr : Room j X.A) (tk : Takes X W) (hc : X.calm = true) (ha : PA X [a] ta) (hg : Gl X x := by rfl) (hd : (x == ("__debug__" : Str)) = false := by decide)
    (he : starEach (a :: []) X.env = (false, eval a X.env) :: starEach [] X.env := by rfl) (hpl : (backTo pos (starEach [] X.env)).any (·.1) = false := by rfl) :
    PS X (.Raise (some (.Call (.Name x p) [a] [] pos)) none pos2) (tRaiseF C f W ta) := ps_raise hc tk (pmk_sup (k := k) T hr ha hg hd he hpl)
end
/-! ### a def that may raise -/
structure CalX (P : Program) (w : World) (K : PySem.W.Frag) (mg : Str → Option Value) (base : Heap) (k : Nat) (x : Str) (sp : Sp) : Prop where
  ex : ∃ (f : Addr) (fd : FuncData) (ps : List Str), FnOk P w K mg base (L2.CX P w) k f fd ps sp ∧ mg x = some (.ref f) ∧ PySem.W.keepIn K (.ref f) = true ∧ Binds K fd ps []
theorem mkCalX {P : Program} {w : World} {K : PySem.W.Frag} {mg : Str → Option Value} {base : Heap} {x : Str} {st : Stmt} {N ps : List Str} {sp : Sp} {k : Nat} (D : ∃ f fd, C8.Def K mg x st f fd ∧ Binds K fd ps []) (S : FnScope N ps (C8.fnScope st)) (len : ∀ vs H Q E, sp vs H Q E → vs.length = ps.length)
    (hbody : ∀ (f : Addr) (cdv : Value) (A : Around) (outer : List Env) (s : Shared) (H : Hp) (vs : List V) (Q : VK) (E : XK), Room k (A.deeper (envOfC x (C8.fnScope st) s.heap.objs.size f cdv)) → sp vs H Q E →
      ∃ t, PSs (cxOf (L2.CX P w) P w K mg base N x (C8.fnScope st) f cdv A outer s H E) (C8.fnBody st) t ∧ t { nx := fun _ H' => Q .non H', rt := Q } (start N vs) H) : CalX P w K mg base (k + 1) x sp := by
  obtain ⟨f, fd, F, b⟩ := D
  refine ⟨f, fd, ps, ?_, F.mgf, F.kp, b⟩
  obtain ⟨oc, od, dV, kV, doc, pm, an, cdv, ct, osl, rfl, lk, hcd⟩ := F.fn.ex
  exact fn_of lk hcd S len fun A outer s H vs Q E hr hsp => hbody f cdv A outer s H vs Q E hr hsp
section
variable {X : Cx} {k j : Nat} {x : Str} {sp : Sp} {p pos : Pos} {e : Expr} {es : List Expr} {t : TA}
theorem takesF {X : Cx} : Takes X (fun _ _ _ _ => False) := fun _ _ ⟨_, _, _, _, _, _, _, _, _, _, _, _, _, _, _, _, w⟩ => w.elim
/-- called where it does not raise -/
theorem pe_cx0 (c : CalX X.prog X.w X.K X.mg X.base k x sp) (hr : Room j X.A) (hk : k ≤ j) (hg : Gl X x) (ha : PA X (e :: es) t)
    (hdb : (x == ("__debug__" : Str)) = false := by decide) (he : starEach (e :: es) X.env = (false, eval e X.env) :: starEach es X.env := by rfl) (hpl : (backTo pos (starEach es X.env)).any (·.1) = false := by rfl) :
    PE X (.Call (.Name x p) (e :: es) [] pos) (tCall sp [] C8.E0 t) := by
  obtain ⟨f, fd, ps, F, hm, kp, b⟩ := c.ex
  exact pe_call F (hr.mono hk) hg hm kp b .nil (passes_call takesF fun _ _ _ _ h => h) ha hdb he hpl
/-- called where it may -/
theorem pe_cx {W : WX} (c : CalX X.prog X.w X.K X.mg X.base k x sp) (tk : Takes X W) (hr : Room j X.A) (hk : k ≤ j) (hg : Gl X x) (ha : PA X (e :: es) t)
    (hdb : (x == ("__debug__" : Str)) = false := by decide) (he : starEach (e :: es) X.env = (false, eval e X.env) :: starEach es X.env := by rfl) (hpl : (backTo pos (starEach es X.env)).any (·.1) = false := by rfl) :
    PE X (.Call (.Name x p) (e :: es) [] pos) (tCallS sp (WE W) t) := by
  obtain ⟨f, fd, ps, F, hm, kp, b⟩ := c.ex
  exact pe_callS F (hr.mono hk) hg hm kp b (passAt tk) ha hdb he hpl
end
/-! ### the caught exception -/
structure ExcD (K : PySem.W.Frag) (D : Addr) : Prop where
  hg : PySem.W.findIn K (.ref D) "__getattribute__" = some (some (.builtin "BaseException.__getattribute__"))
  hk : PySem.W.findIn K (.ref D) "__getattr__" = some none
  hs : PySem.W.subIn K (.ref D) (.type "BaseException") = some true
  hd : PySem.W.hasDictIn K D = true
  ha : PySem.W.findIn K (.ref D) "__class__" = some (some (.builtin "object.__class__"))
  hn : PySem.W.specialIn K (.builtin "object.__class__") "__get__" = some (some (.builtin "getset_descriptor.__get__"))
  ht : PySem.W.takesIn K (.builtin "object.__class__") = some true
  hm : PySem.W.mroIn K D (.type "object") = some true
/-- isinstance(e, c), e the exception that the suite holds, of the class at D -/
def rIsA (K : PySem.W.Frag) (a : Addr) (cls : Value) (d : Option Addr) : List V → Hp → VK → Prop := fun xs H Q => ∃ (D dd : Addr) (fs : List (Str × V)) (c : V) (cv : Value) (b : Bool), xs = [.ref a, c] ∧ cls = .ref D ∧ ExcD K D ∧ d = some dd ∧ H dd = some (.xd fs) ∧ (∀ u, RelV c u → u = cv) ∧ PySem.W.kitOne K (.ref D) cv = some b ∧ Q (.bl b) H
theorem call_isA {X : Cx} {a : Addr} {cls : Value} {d : Option Addr} {oe : Obj} {pn : List (Addr × Obj)} (hz : Zc cls d oe) (hf : ∃ vs, oe.data = .fields vs) : CallR (X.suite a ((a, oe) :: pn)) (.builtin "isinstance") (rIsA X.K a cls d) := by
  intro pins s σ H xs us Q I r h
  obtain ⟨D, dd, fs, c, cv, b, rfl, rfl, C, rfl, hdd, hcv, e, q⟩ := h
  cases r with
  | cons rx rr =>
    cases rr with
    | cons rt rr =>
      cases rr
      cases rx
      have ec := hcv _ rt
      subst ec
      obtain ⟨hget, _⟩ := I.pin (a, oe) (List.mem_append.mpr (.inl List.mem_cons_self))
      obtain ⟨vs, hv⟩ := hf
      have hx : ObjOk X.prog X.w H s.heap dd (.xd fs) := I.hok dd _ hdd
      obtain ⟨mA, hns, hr⟩ := hx
      obtain ⟨od, ho, hl⟩ := lookIn_ns hns
      have J : PySem.W.InstAt s.heap a oe D (some od) := ⟨hget, hz.1, by unfold PySem.W.notCls; rw [hv] <;> rfl, by rw [hz.2]; exact ho⟩
      exact PySem.W.kia_one (PySem.KPX.kitx_excA C.hg C.hk C.hs C.hd C.ha C.hn C.ht C.hm) I.kIn ⟨_, J⟩ e (fun z => nomatch z) fun tk => ⟨.bl b, H, I.kept (t' := tk) fun _ _ z => z, rfl, q⟩
/-- e.f, e the exception that the suite holds -/
def tXg (K : PySem.W.Frag) (a : Addr) (cls : Value) (d : Option Addr) (f : Str) (te : TE) : TE := fun σ H Q => te σ H fun x H1 => ∃ (C dd : Addr) (fs : List (Str × V)) (v : V), x = .ref a ∧ cls = .ref C ∧ XfC K C ∧ PySem.W.findIn K (.ref C) f = some none ∧ d = some dd ∧ H1 dd = some (.xd fs) ∧ fs.lookup f = some v ∧ Q v H1
theorem pe_xg {X : Cx} {a : Addr} {oe : Obj} {cls : Value} {d : Option Addr} {pn : List (Addr × Obj)} {e : Expr} {te : TE} {pos : Pos} {n : Str}
    (hz : Zc cls d oe) (hf : ∃ vs, oe.data = .fields vs) (he : PE (X.suite a ((a, oe) :: pn)) e te) (hb : attributeBase e n X.env (eval e X.env) = eval e X.env := by rfl) :
    PE (X.suite a ((a, oe) :: pn)) (.Attribute e n pos) (tXg X.K a cls d n te) := by
  refine ⟨fun pins s σ H Q I h => ?_⟩
  refine attr_of hb (thn (he.run pins s σ H _ I h) fun u s1 hh => ?_)
  obtain ⟨x, H1, I1, rx, C, dd, fs, v, ex, ec, T, hno, ed, ea, l, q⟩ := hh
  subst ex
  obtain rfl : u = Value.ref a := rx
  subst ec
  subst ed
  obtain ⟨ha, _⟩ := I1.pin (a, oe) (List.mem_append_left _ List.mem_cons_self)
  obtain ⟨vs, hd⟩ := hf
  have hx : ObjOk X.prog X.w H1 s1.heap dd (.xd fs) := I1.hok dd _ ea
  obtain ⟨mA, hns, hr⟩ := hx
  obtain ⟨od, ho, hl⟩ := lookIn_ns hns
  obtain ⟨u, hu, ru⟩ := RelO.some_of (v := v) (o := mA n) (by rw [← l]; exact hr n)
  have J : PySem.W.InstAt s1.heap a oe C (some od) := ⟨ha, hz.1, by unfold PySem.W.notCls; rw [hd] <;> rfl, by rw [hz.2]; exact ho⟩
  exact HandSPX.exc_get I1.kIn J T.ga T.gg T.exC (PySem.W.findObj_own T.hdC hno rfl (by rw [hl, hu])) (handed_of ru) ⟨v, H1, I1.tok _, ru, q⟩
end KP
namespace KP
open PySem PySem.Spec PyProof.Rows L2
theorem sup_of {K : PySem.W.Frag} {C D : Addr} {nm q nm' q' : Str} {N N' : Addr} {bs bs' tl : List Value} {h1 h1' : Bool} {sn sn' : List Str} {sub sub' : List Value} {ab ab' : Bool} {col col' : Option Bool} {dd dd' : Option Addr} {k0 k1 k2 k3 k5 k0' k1' k2' k3' k5' : Option Value} {nw nw' : String} {n : Str} {v : Option Value}
    (hC : K.lookup C = some (excClassObj nm q C N bs (.ref D :: tl) h1 sn sub ab col dd k0 k1 k2 k3 k5 nw)) (hD : K.lookup D = some (excClassObj nm' q' D N' bs' tl h1' sn' sub' ab' col' dd' k0' k1' k2' k3' k5' nw')) (hi : PySem.W.findIn K (.ref D) n = some v) : PySem.W.ks_superIn K C C n = some v := by
  unfold PySem.W.ks_superIn PySem.W.clsIn
  rw [hC]
  unfold PySem.W.findIn at hi
  dsimp only at hi
  rw [hD] at hi
  show PySem.W.alongIn K n (((Value.ref C :: .ref D :: tl).dropWhile (· != .ref C)).drop 1) = _
  have e : (Value.ref C :: .ref D :: tl).dropWhile (· != .ref C) = .ref C :: .ref D :: tl := by
    rw [List.dropWhile_cons]
    simp
  rw [e]
  exact hi
section
variable {K : PySem.W.Frag} {σ : S2} {H : Hp} {Q : VK} {t : TA} {te : TE} {a C D dd : Addr} {f : Str} {v : V} {sp : Sp} {E : L2.St → XK} {W Wout : WX} {nx : S2 → Hp → Prop} {rt : VK} {bk ct : S2 → Hp → Prop}
theorem w_callS (q : t σ H fun vs H1 => sp vs H1 Q (E σ)) : tCallS sp E t σ H Q := q
theorem w_raiseF {En : Ends} (q : t σ H fun vs H1 => vs = [v] ∧ ∀ d, H1 d = none → W (.ref C) (some d) σ (upd H1 d (.xd [(f, v)]))) (mono : ∀ (Q Q' : List V → Hp → Prop), (∀ vs H1, Q vs H1 → Q' vs H1) → t σ H Q → t σ H Q') : tRaiseF C f W t En σ H :=
  mono _ _ (fun vs H1 h => ⟨v, h.1, h.2⟩) q
theorem w_wAs {i : Nat} {ts : Addr → Value → Option Addr → TS} {c : Value} {cls : Value} {d : Option Addr} (h : PySem.W.exmOne K cls c = some true) (q : ∀ a, H a = none → ts a cls d ⟨fun σ' H' => nx (σ'.set i none) H', rt, fun σ' H' => bk (σ'.set i none) H', fun σ' H' => ct (σ'.set i none) H'⟩ (σ.set i (some (.ref a))) H) :
    wAs K c i ts Wout ⟨nx, rt, bk, ct⟩ cls d σ H := ⟨true, h, fun _ a ha => q a ha, fun z => nomatch z⟩
def xgV (K : PySem.W.Frag) (a : Addr) (cls : Value) (d : Option Addr) (f : Str) (x : V) (H1 : Hp) (Q : VK) : Prop := ∃ (C dd : Addr) (fs : List (Str × V)) (v : V), x = .ref a ∧ cls = .ref C ∧ XfC K C ∧ PySem.W.findIn K (.ref C) f = some none ∧ d = some dd ∧ H1 dd = some (.xd fs) ∧ fs.lookup f = some v ∧ Q v H1
theorem w_xg {cls : Value} {d : Option Addr} (q : te σ H fun x H1 => xgV K a cls d f x H1 Q) : tXg K a cls d f te σ H Q := q
theorem w_xgV {P : Program} {mg : Str → Option Value} {x : Str} (S : PySem.KPX.SupX P K mg x f C) (h : H dd = some (.xd [(f, v)])) (q : Q v H) : xgV K a (.ref C) (some dd) f (.ref a) H Q :=
  ⟨C, dd, _, v, rfl, rfl, ⟨S.ga, S.gg, S.exC, S.hdC⟩, S.noF, rfl, h, by simp [List.lookup], q⟩
theorem w_isA {fs : List (Str × V)} (S : ExcD K C) (h : H dd = some (.xd fs)) (q : Q (.bl true) H) : rIsA K a (.ref C) (some dd) [.ref a, .ref C] H Q :=
  ⟨C, dd, fs, .ref C, .ref C, true, rfl, rfl, S, rfl, h, fun u r => r, by unfold PySem.W.kitOne; simp, q⟩
end
end KP
namespace KP
open PySem PySem.Spec PyProof.Rows L2
open PySem.W (Datum Tup DatumOrd)
/-! ### t * k, k at least 1 -/
theorem tuple_mul1 (l : Addr) (items : Array Value) (n : Nat) (dd : Option Addr) (sl : Array (Option Value)) (u : Tok) :
    Meets (Builtin.«tuple.__mul__» ⟨[.ref l, .int 1 u], []⟩) (fun _ R s => s.heap.get? l = some { cls := .type "tuple", dict := dd, data := .seq items n, slots := sl } ∧ R (.ok (.ret (Value.ref l))) s) :=
  .of_wp fun prog w A R s h => by
    obtain ⟨hp, g, d, tk, os⟩ := s
    obtain ⟨hl, h⟩ := h
    have f1 := AutoSeq1.idx_int
    have c0 : (decide ((1 : Int) < -(2 ^ 63)) || decide ((1 : Int) ≥ 2 ^ 63)) = false := by decide
    have c1 : (items.isEmpty || (1 : Int) == 1) = true := by simp
    wp_walk using AutoSeq1.wpAny_loadPart' hl
    repeat (first
      | (refine wpAny_ite_false (decide_eq_false (by rw [c0]; exact Bool.false_ne_true)) ?_; wp_walk using AutoSeq1.wpAny_loadPart' hl)
      | (refine wpAny_ite_true (decide_eq_true c1) ?_; wp_walk using AutoSeq1.wpAny_loadPart' hl))
    exact ⟨_, rfl, h⟩
def rRepD (K : PySem.W.Frag) : R2 := fun x y H Q => ∃ l k xs, x = .ref l ∧ y = .int k ∧ SqT K H l xs ∧ xs ≠ [] ∧ 1 ≤ k ∧ k ≤ 100000 ∧ xs.length ≤ 10 ∧ (k = 1 → Q (.ref l) H) ∧ (2 ≤ k → ∀ p, H p = none → Q (.ref p) (upd H p (.tup (List.replicate k.toNat xs).flatten)))
theorem op_repD {X : Cx} : OpR X (binaryOp .Mult) (rRepD X.K) := by
  intro pins s σ H x y v u Q I rx ry h
  obtain ⟨l, k, xs, rfl, rfl, hT, hne, h1, h2, hz, q1, q2⟩ := h
  by_cases hk : 2 ≤ k
  · exact op_repW pins s σ H _ _ v u Q I rx ry ⟨l, k, xs, rfl, rfl, hT, hne, hk, h2, hz, q2 hk⟩
  · have e : k = 1 := by omega
    subst e
    cases rx
    obtain ⟨t, rfl⟩ := ry
    obtain ⟨its, r, ⟨⟨cls, dd, data, sl⟩, ho, hc, n, hd⟩, hs⟩ := I.tuple hT
    simp only at hc hd
    subst hc hd
    refine wpAny_binaryOp_repeat_ref (T := "tuple") (U := "int") (by decide) ⟨_, ho, rfl⟩ (fun s' => typeIs_int s' 1 t) noFill_tuple_mul F.fills_int_mul F.slot_int_rmul repeat_tuple F.slot_int_index.lookup
      (call_meets F.slot_int_rmul (typeIs_int s 1 t) F.entry_int_rmul (F.args_int_rmul_2 _ _) (int_rmul_tuple 1 t l its.toArray n dd sl)
        ⟨ho, rfl, ⟨_, ho, rfl⟩, call_meets F.slot_tuple_mul ⟨_, ho, rfl⟩ F.entry_tuple_mul (F.args_tuple_mul_2 _ _) (tuple_mul1 l its.toArray n dd sl t) ⟨ho, ?_⟩⟩)
    exact ⟨.ref l, H, I, rfl, q1 rfl⟩
theorem op_repDK {X : Cx} (K : PySem.W.Frag) (h : X.K = K) : OpR X (binaryOp .Mult) (rRepD K) := h ▸ op_repD
section
variable {K : PySem.W.Frag} {σ : S2} {H : Hp} {Q : VK} {v : V} {α β : Type} [DecidableEq α] [Datum α] [TupD α] [DecidableEq β] [Datum β] [TupD β] {g : TG} {tt : TT} {te : TE} {vs : List Nat} {xs : List α} {a : Addr}
theorem rep_flat {α : Type} (x : α) : ∀ k : Nat, (List.replicate k [x]).flatten = List.replicate k x
  | 0 => rfl
  | k + 1 => by rw [List.replicate_succ, List.flatten_cons, rep_flat x k, List.replicate_succ]; rfl
theorem IsAll.rep {w : V} {x : α} (h : Is K H w x) : ∀ k : Nat, IsAll K H (List.replicate k w) (List.replicate k x)
  | 0 => .nil
  | k + 1 => by rw [List.replicate_succ, List.replicate_succ]; exact .cons h (IsAll.rep h k)
/-- (x,) * k -/
theorem w_repX {x : α} {k : Nat} (h : Is K H v (Tup.mk [x])) (h2 : 1 ≤ k) (h3 : k ≤ 100000) (q : ∀ (w : V) (H' : Hp), Kp [] H H' → Is K H' w (Tup.mk (List.replicate k x)) → Q w H') : rRepD K v (.int k) H Q := by
  obtain ⟨a, ws, rfl, ha, hv⟩ := h.tupm
  obtain ⟨w, rfl, hw⟩ : ∃ w, ws = [w] ∧ Is K H w x := by
    match ws, hv with
    | [w], hv => exact ⟨w, rfl, hv.uncons.1⟩
    | [], hv => cases hv
    | _ :: _ :: _, hv => have := hv.uncons.2; cases this
  refine ⟨a, k, [w], rfl, rfl, ha, by simp, by omega, by omega, by simp, fun e => ?_, fun e p hp => ?_⟩
  · have : k = 1 := by omega
    subst this
    exact q _ _ Kp.refl h
  · rw [Int.toNat_natCast, rep_flat]
    exact q _ _ (Kp.new hp) (is_tup (SqT.of upd_same) ((IsAll.rep hw k).kp (Kp.new (M := []) hp)))
/-! ### comprehensions without effect: what they make -/
theorem fm_take {F : α → Option β} {i : Nat} {x : α} (h : xs[i]? = some x) : (xs.take (i + 1)).filterMap F = (xs.take i).filterMap F ++ (F x).toList := by
  rw [List.take_add_one, h]
  simp only [Option.toList_some, List.filterMap_append]
  simp only [List.filterMap_cons, List.filterMap_nil]
  cases F x <;> rfl
/-- [e for x in t if c], t a tuple of typed things -/
theorem w_lcTF (h : Is K H v (Tup.mk xs)) (F : α → Option β) (hn : xs.length ≤ 1000000)
    (hs : ∀ (i : Nat) x vx H1 (QE : VK) (QF : Hp → Prop), xs[i]? = some x → Is K H1 vx x → Kp [] H H1 → (∀ w y H4, Kp [] H1 H4 → Is K H4 w y → F x = some y → QE w H4) → (∀ H3, Kp [] H1 H3 → F x = none → QF H3) →
      g vx (wipe σ vs) H1 fun σ2 H3 => wipe σ2 vs = wipe σ vs ∧ tt σ2 H3 fun b H4 => if b = true then te σ2 H4 QE else QF H4)
    (hd : ∀ D ws H', H D = none → Kp [] H H' → IsAll K H' ws (xs.filterMap F) → H' D = some (.lst ws) → Q (.ref D) H') : lcT K g tt te vs σ Q v H := by
  obtain ⟨a, us, rfl, ha, hv⟩ := h.tupm
  refine w_lcTV ha β [] (fun _ => True) (fun i acc => acc = (xs.take i).filterMap F) (by rw [hv.length]; exact hn) (by simp) True.intro (fun _ _ _ _ _ => True.intro) rfl (fun i x acc H1 QE QF hx e1 _ hj hl1 kE kF => ?_) (fun D ws ys H' hD e1 _ hj hlen hall hH' => ?_)
  · obtain ⟨y, hy, iy⟩ := hv.get hx
    refine hs i y x H1 QE QF hy (iy.kp e1) e1 (fun w z H4 e4 iz hf => kE w z H4 e4 True.intro iz ?_) (fun H3 e3 hf => kF H3 e3 True.intro ?_)
    · rw [fm_take hy, hf, hj]; rfl
    · rw [fm_take hy, hf, hj]; simp
  · rw [hv.length, List.take_length] at hj
    exact hd D ws H' hD e1 (hj ▸ hall) hH'
/-- the same over a list -/
theorem w_lcLF {us : List V} (ha : SqL K H a us) (hv : IsAll K H us xs) (F : α → Option β) (hn : xs.length ≤ 1000000)
    (hs : ∀ (i : Nat) x vx H1 (QE : VK) (QF : Hp → Prop), xs[i]? = some x → Is K H1 vx x → Kp [] H H1 → (∀ w y H4, Kp [] H1 H4 → Is K H4 w y → F x = some y → QE w H4) → (∀ H3, Kp [] H1 H3 → F x = none → QF H3) →
      g vx (wipe σ vs) H1 fun σ2 H3 => wipe σ2 vs = wipe σ vs ∧ tt σ2 H3 fun b H4 => if b = true then te σ2 H4 QE else QF H4)
    (hd : ∀ D ws H', H D = none → Kp [] H H' → IsAll K H' ws (xs.filterMap F) → H' D = some (.lst ws) → Q (.ref D) H') : lcL K g tt te vs σ Q (.ref a) H := by
  refine w_lcLV ha β [] (fun _ => True) (fun i acc => acc = (xs.take i).filterMap F) (by rw [hv.length]; exact hn) (by simp) (by simp) True.intro (fun _ _ _ _ _ => True.intro) rfl (fun i x acc H1 QE QF hx e1 _ hj hl1 kE kF => ?_) (fun D ws ys H' hD e1 _ hj hlen hall hH' => ?_)
  · obtain ⟨y, hy, iy⟩ := hv.get hx
    refine hs i y x H1 QE QF hy (iy.kp e1) e1 (fun w z H4 e4 iz hf => kE w z H4 e4 True.intro iz ?_) (fun H3 e3 hf => kF H3 e3 True.intro ?_)
    · rw [fm_take hy, hf, hj]; rfl
    · rw [fm_take hy, hf, hj]; simp
  · rw [hv.length, List.take_length] at hj
    exact hd D ws H' hD e1 (hj ▸ hall) hH'
/-- .. over range(n) -/
theorem w_lcRF {j : Int} (K : PySem.W.Frag) (n : Nat) (e : j = (n : Int)) (F : Nat → Option β) (hn : n ≤ 1000000)
    (hs : ∀ (i : Nat) H1 (QE : VK) (QF : Hp → Prop), i < n → Kp [] H H1 → (∀ w y H4, Kp [] H1 H4 → Is K H4 w y → F i = some y → QE w H4) → (∀ H3, Kp [] H1 H3 → F i = none → QF H3) →
      g (.int (i : Int)) (wipe σ vs) H1 fun σ2 H3 => wipe σ2 vs = wipe σ vs ∧ tt σ2 H3 fun b H4 => if b = true then te σ2 H4 QE else QF H4)
    (hd : ∀ D ws H', H D = none → Kp [] H H' → IsAll K H' ws ((List.range n).filterMap F) → H' D = some (.lst ws) → Q (.ref D) H') : lcR1 g tt te vs σ Q [.int j] H := by
  refine w_lcR1V K n e β [] (fun _ => True) (fun i acc => acc = (List.range i).filterMap F) hn (by simp) True.intro (fun _ _ _ _ _ => True.intro) rfl (fun i acc H1 QE QF hi e1 _ hj hl1 kE kF => ?_) (fun D ws ys H' hD e1 _ hj hlen hall hH' => ?_)
  · refine hs i H1 QE QF hi e1 (fun w z H4 e4 iz hf => kE w z H4 e4 True.intro iz ?_) (fun H3 e3 hf => kF H3 e3 True.intro ?_)
    · rw [List.range_succ, List.filterMap_append, ← hj]; simp [hf]
    · rw [List.range_succ, List.filterMap_append, ← hj]; simp [hf]
  · exact hd D ws H' hD e1 (hj ▸ hall) hH'
theorem fm_filter (p : α → Bool) : ∀ xs : List α, xs.filterMap (fun x => if p x then some x else none) = xs.filter p
  | [] => rfl
  | x :: xs => by
    rw [List.filterMap_cons, List.filter_cons, fm_filter p xs]
    cases p x <;> rfl
theorem fm_map {γ δ : Type} (f : γ → δ) : ∀ xs : List γ, xs.filterMap (fun x => some (f x)) = xs.map f
  | [] => rfl
  | x :: xs => by rw [List.filterMap_cons, List.map_cons, fm_map f xs]
theorem w_notIn {x : V} {us : List V} (z : α) (bs : List α) (hs : SqL K H a us ∨ SqT K H a us) (hb : IsAll K H us bs) (hx : Is K H x z) (d : Datum.depth α ≤ 60) (q : Q (.bl (!decide (z ∈ bs))) H) : rInX K true x (.ref a) H Q :=
  ⟨α, _, _, z, bs, a, us, rfl, hs, hb, hx, d, q⟩
theorem w_in {x : V} {us : List V} (z : α) (bs : List α) (hs : SqL K H a us ∨ SqT K H a us) (hb : IsAll K H us bs) (hx : Is K H x z) (d : Datum.depth α ≤ 60) (q : Q (.bl (decide (z ∈ bs))) H) : rInX K false x (.ref a) H Q :=
  ⟨α, _, _, z, bs, a, us, rfl, hs, hb, hx, d, q⟩
theorem w_neB {c d : Bool} (q : Q (.bl (!decide (c = d))) H) : rNe (.bl c) (.bl d) H Q := w_rNe rfl (by
  have e : decide (V.bl c = V.bl d) = decide (c = d) := by simp
  rw [e]; exact q)
theorem w_eqB {c d : Bool} (q : Q (.bl (decide (c = d))) H) : rEq (.bl c) (.bl d) H Q := w_rEq rfl (by
  have e : decide (V.bl c = V.bl d) = decide (c = d) := by simp
  rw [e]; exact q)
theorem is_tup_some {xs : List Int} (h : Is K H v (Tup.mk xs)) : Is K H v (Tup.mk (xs.map some)) := by
  obtain ⟨a, ws, rfl, ha, hv⟩ := h.tupm
  have := hv.ints
  subst this
  exact is_tup ha (isAll_some _)
/-! ### what is no number -/
/-- None, a bool, a text, a tuple -/
def OddV (K : PySem.W.Frag) (H : Hp) (v : V) : Prop := v = .non ∨ (∃ b, v = .bl b) ∨ (∃ s, v = .str s) ∨ ∃ p xs, v = .ref p ∧ SqT K H p xs
theorem OddV.kp {M : List Addr} {H H' : Hp} (h : OddV K H v) (e : Kp M H H') : OddV K H' v := by
  rcases h with h | h | h | ⟨p, xs, h, g⟩
  · exact .inl h
  · exact .inr (.inl h)
  · exact .inr (.inr (.inl h))
  · exact .inr (.inr (.inr ⟨p, xs, h, e.sqT g⟩))
theorem w_isiBI {b : Bool} (q : Q (.bl true) H) : rIsi K [.bl b, .ty "int"] H Q := w_isi (.ty _) (.base (.bl b)) (kit_ty (by decide +kernel)) q
theorem w_isiBB {b : Bool} (q : Q (.bl true) H) : rIsi K [.bl b, .ty "bool"] H Q := w_isi (.ty _) (.base (.bl b)) (kit_ty (by decide +kernel)) q
theorem w_isiSI {z : Str} (q : Q (.bl false) H) : rIsi K [.str z, .ty "int"] H Q := w_isi (.ty _) (.base (.str z)) (kit_ty (by decide +kernel)) q
theorem w_isiSB {z : Str} (q : Q (.bl false) H) : rIsi K [.str z, .ty "bool"] H Q := w_isi (.ty _) (.base (.str z)) (kit_ty (by decide +kernel)) q
theorem w_isiNB (q : Q (.bl false) H) : rIsi K [.non, .ty "bool"] H Q := w_isi (.ty _) (.base .non) (kit_ty (by decide +kernel)) q
theorem w_isiTI {p : Addr} {ys : List V} (h : SqT K H p ys) (q : Q (.bl false) H) : rIsi K [.ref p, .ty "int"] H Q := w_isi (.ty _) (tyx_tup h) (kit_ty (by decide +kernel)) q
theorem w_isiTB {p : Addr} {ys : List V} (h : SqT K H p ys) (q : Q (.bl false) H) : rIsi K [.ref p, .ty "bool"] H Q := w_isi (.ty _) (tyx_tup h) (kit_ty (by decide +kernel)) q
/-- isinstance(v, int), v odd: only a bool is one -/
theorem w_isiOI (h : OddV K H v) (q : ∀ b, (b = true → ∃ c, v = .bl c) → Q (.bl b) H) : rIsi K [v, .ty "int"] H Q := by
  rcases h with rfl | ⟨b, rfl⟩ | ⟨s, rfl⟩ | ⟨p, xs, rfl, g⟩
  · exact w_isiNI (q _ fun h => nomatch h)
  · exact w_isiBI (q _ fun _ => ⟨_, rfl⟩)
  · exact w_isiSI (q _ fun h => nomatch h)
  · exact w_isiTI g (q _ fun h => nomatch h)
/-- an int, a text, () -/
inductive OddD where
  | int (i : Int)
  | str (s : Str)
  | unit
deriving DecidableEq
instance : Datum OddD where
  toD o := match o with
    | .int i => .int i
    | .str s => .str s
    | .unit => .tuple []
  plain o := by cases o <;> rfl
  eqv a b := by
    cases a <;> cases b
    · simp only [PyData.eqv]; rename_i x y; rw [PySem.W.beq_decide]; exact decide_eq_decide.mpr ⟨fun e => by rw [e], fun e => OddD.int.inj e⟩
    · simp only [PyData.eqv]; rfl
    · simp only [PyData.eqv]; rfl
    · simp only [PyData.eqv]; rfl
    · simp only [PyData.eqv]; rename_i x y; rw [PySem.W.beq_decide]; exact decide_eq_decide.mpr ⟨fun e => by rw [e], fun e => OddD.str.inj e⟩
    · simp only [PyData.eqv]; rfl
    · simp only [PyData.eqv]; rfl
    · simp only [PyData.eqv]; rfl
    · simp [PyData.eqv, PyData.eqvAll]
  depth := 1
  depth_le o := by cases o <;> simp [PyData.depth, PyData.depthAll]
instance : TupD OddD := ⟨fun o => by cases o <;> simp [Datum.toD, lf, lfAll]⟩
theorem dec_f {p : Prop} (h : ¬ p) (d : Decidable p) : @decide p d = false := decide_eq_false h
theorem dec_t {p : Prop} (h : p) (d : Decidable p) : @decide p d = true := decide_eq_true h
theorem isAll_odd : ∀ ns : List Int, IsAll K H (ns.map V.int) (ns.map OddD.int)
  | [] => .nil
  | n :: ns => .cons (show Dp K H (.int n) (.int n) from .int n) (isAll_odd ns)
theorem is_oddS (s : Str) : Is K H (.str s) (OddD.str s) := (Dp.str s : Dp K H (.str s) (.str s))
theorem is_oddU {p : Addr} (h : SqT K H p []) : Is K H (.ref p) OddD.unit := (Dp.tup h .nil : Dp K H (.ref p) (.tuple []))
def spIntX (K : PySem.W.Frag) : Sp := fun vs H Q _ => ∃ v, vs = [v] ∧ OddV K H v ∧ Q (.bl false) H
end
end KP
namespace KP
open PySem PySem.Spec PyProof.Rows L2
open PySem.W (Datum Tup DatumOrd)
open FL
/-! ### kinds that are offered, and the least of them -/
def handOf (lots : List (List Int)) (stock : List Int) (r : Nat) : List Int := (lots.getD r []).filter fun k => decide (0 < stock.getD k.toNat 0)
def besideOf (lots : List (List Int)) (k o : Int) : List Int := (takersI lots k).filter fun u => decide (u ∉ takersI lots o)
def leastOf (lots : List (List Int)) (hand : List Int) : List Int := hand.filter fun k => hand.all fun o => decide (besideOf lots k o = [])
def leastL (lots : List (List Int)) (hand : List Int) : List Int := hand.filter fun k => (lots.filter fun lot => decide (k ∈ lot)).all fun lot => hand.all fun o => decide (o ∈ lot)
def unitsIn (stock : List Int) (lot : List Int) : Int := (lot.map fun k => stock.getD k.toNat 0).sum
theorem mem_takersI {lots : List (List Int)} {k u : Int} : u ∈ takersI lots k ↔ ∃ i : Nat, u = i ∧ i < lots.length ∧ k ∈ lots.getD i [] := by
  unfold takersI takersN nI
  simp only [List.mem_map, List.mem_filter, List.mem_range, decide_eq_true_eq]
  constructor
  · rintro ⟨i, ⟨h1, h2⟩, rfl⟩; exact ⟨i, rfl, h1, h2⟩
  · rintro ⟨i, rfl, h1, h2⟩; exact ⟨i, ⟨h1, h2⟩, rfl⟩
theorem beside_nil {lots : List (List Int)} {k o : Int} : besideOf lots k o = [] ↔ ∀ lot ∈ lots, k ∈ lot → o ∈ lot := by
  unfold besideOf
  rw [List.filter_eq_nil_iff]
  constructor
  · intro h lot hl hk
    obtain ⟨i, hi, rfl⟩ := List.mem_iff_getElem.mp hl
    have gd : lots.getD i [] = lots[i] := by rw [List.getD_eq_getElem?_getD, List.getElem?_eq_getElem hi]; rfl
    have := h (i : Int) (mem_takersI.mpr ⟨i, rfl, hi, by rw [gd]; exact hk⟩)
    rw [decide_eq_true_eq, Classical.not_not] at this
    obtain ⟨j, e, _, hj⟩ := mem_takersI.mp this
    have : j = i := by omega
    subst this
    rw [gd] at hj; exact hj
  · intro h u hu
    obtain ⟨i, rfl, hi, hk⟩ := mem_takersI.mp hu
    rw [decide_eq_true_eq, Classical.not_not]
    exact mem_takersI.mpr ⟨i, rfl, hi, h _ (getD_mem hi) hk⟩
theorem least_eq (lots : List (List Int)) (hand : List Int) : leastL lots hand = leastOf lots hand := by
  unfold leastL leastOf
  refine List.filter_congr fun k hk => ?_
  rw [Bool.eq_iff_iff, List.all_eq_true, List.all_eq_true]
  constructor
  · intro h o ho
    rw [decide_eq_true_eq, beside_nil]
    intro lot hl hk
    have := h lot (List.mem_filter.mpr ⟨hl, decide_eq_true hk⟩)
    rw [List.all_eq_true] at this
    exact of_decide_eq_true (this o ho)
  · intro h lot hl
    obtain ⟨h1, h2⟩ := List.mem_filter.mp hl
    rw [List.all_eq_true]
    intro o ho
    have := beside_nil.mp (of_decide_eq_true (h o ho)) lot h1 (of_decide_eq_true h2)
    exact decide_eq_true this
theorem hand_mem {lots : List (List Int)} {stock : List Int} {r : Nat} {k : Int} : k ∈ handOf lots stock r ↔ k ∈ lots.getD r [] ∧ 0 < stock.getD k.toNat 0 := by
  unfold handOf
  rw [List.mem_filter, decide_eq_true_eq]
/-! ### sums over a lot -/
theorem sumR_pick (n : Nat) (f : Nat → Int) (k : Nat) (hk : k < n) : sumR n (fun j => if j = k then f j else 0) = f k := by
  have : (fun j => if j = k then f j else 0) = e1 k (f k) := by
    funext j
    unfold e1
    by_cases h : j = k
    · rw [if_pos h, if_pos h, h]
    · rw [if_neg h, if_neg h]
  rw [this, sumR_e1, if_pos hk]
theorem sumR_split (n : Nat) (f : Nat → Int) (p : Nat → Prop) [DecidablePred p] (k : Nat) (hk : k < n) (hp : ¬ p k) : sumR n (fun j => if j = k ∨ p j then f j else 0) = f k + sumR n (fun j => if p j then f j else 0) := by
  rw [← sumR_pick n f k hk, ← sumR_add]
  refine sumR_congr n fun j _ => ?_
  by_cases h1 : j = k
  · have h2 : ¬ p j := h1 ▸ hp
    rw [if_pos (.inl h1), if_pos h1, if_neg h2]; omega
  · by_cases h2 : p j
    · rw [if_pos (.inr h2), if_neg h1, if_pos h2]; omega
    · rw [if_neg (by rintro (h | h); exact h1 h; exact h2 h), if_neg h1, if_neg h2]; omega
theorem units_sum (n : Nat) (stock : List Int) : ∀ (lot : List Int), lot.Nodup → (∀ k ∈ lot, 0 ≤ k ∧ k < n) → unitsIn stock lot = sumR n (fun j => if (j : Int) ∈ lot then gD stock j else 0)
  | [], _, _ => by
    unfold unitsIn
    simp only [List.map_nil, List.sum_nil, List.not_mem_nil, if_false]
    rw [sumR_zero]
  | k :: lot, hn, hr => by
    have ih := units_sum n stock lot (List.nodup_cons.mp hn).2 fun k hk => hr k (List.mem_cons_of_mem _ hk)
    have hk := hr k (List.mem_cons_self ..)
    have : unitsIn stock (k :: lot) = gD stock k.toNat + unitsIn stock lot := by unfold unitsIn gD; simp
    rw [this, ih, ← sumR_split n (gD stock) (fun j => (j : Int) ∈ lot) k.toNat (by omega) (by rw [Int.toNat_of_nonneg hk.1]; exact (List.nodup_cons.mp hn).1)]
    refine sumR_congr n fun j _ => ?_
    have : (j = k.toNat ∨ (j : Int) ∈ lot) ↔ (j : Int) ∈ k :: lot := by
      rw [List.mem_cons]
      constructor
      · rintro (h | h); left; omega; right; exact h
      · rintro (h | h); left; omega; right; exact h
    by_cases h : (j : Int) ∈ k :: lot
    · rw [if_pos h, if_pos (this.mpr h)]
    · rw [if_neg h, if_neg fun c => h (this.mp c)]
theorem listB_nodup {xs : List Int} {b : Int} (h : listB xs b = true) : xs.Nodup := (listB_iff.mp h).2.imp fun h => by omega
section
variable {m n : Nat} {acc : Nat → Nat → Prop} {stock : Nat → Int} {g : Nat → Nat → Int} {left c : Nat → Int}
theorem sumR_ge_one {f : Nat → Int} {n k : Nat} (h : ∀ i, i < n → 0 ≤ f i) (hk : k < n) : f k ≤ sumR n f := by
  have : sumR n (fun j => if j = k then f j else 0) ≤ sumR n f := sumR_le n fun i hi => by
    by_cases e : i = k
    · rw [if_pos e]; exact Int.le_refl _
    · rw [if_neg e]; exact h i hi
  rw [sumR_pick n f k hk] at this
  exact this
/-- no more of b than units that b accepts -/
theorem few_of [DecidableRel acc] (h : SOk m n acc stock g left c) {b : Nat} (hb : b < m) : c b ≤ sumR n fun k => if acc b k then stock k else 0 := by
  rw [← h.cnt b hb]
  refine sumR_le n fun k hk => ?_
  have h0 := h.g0 b k hb hk
  by_cases a : acc b k
  · rw [if_pos a]
    have h1 := h.cons k hk
    have h2 := h.l0 k hk
    have h3 := sumR_ge_one (f := fun u => g u k) (fun i hi => h.g0 i k hi hk) hb
    have h3 : g b k ≤ sumR m fun u => g u k := h3
    omega
  · rw [if_neg a]
    refine Int.not_lt.mp fun hp => a (h.gl b k hb hk hp)
/-- r by a unit that b does not accept, and b by all units that it accepts -/
theorem both_served [DecidableRel acc] {r b o : Nat} (hr : r < m) (hb : b < m) (ho : o < n) (h1 : acc r o) (h2 : ¬ acc b o) (h0 : ∀ k, k < n → 0 ≤ stock k) (hs : 0 < stock o) :
    SOk m n acc stock (fun u k => (if u = r then e1 o 1 k else 0) + if u = b then (if acc b k then stock k else 0) else 0) (fun k => stock k - e1 o 1 k - if acc b k then stock k else 0) (fun u => e1 r 1 u + e1 b (sumR n fun k => if acc b k then stock k else 0) u) where
  g0 u k hu hk := by
    have := h0 k hk
    unfold e1
    split <;> split <;> (try split) <;> (try split) <;> omega
  gl u k hu hk hp := by
    by_cases q : u = r ∧ k = o
    · rw [q.1, q.2]; exact h1
    · have z1 : (if u = r then e1 o 1 k else 0) = 0 := by
        by_cases c : u = r
        · rw [if_pos c, e1_ne fun e => q ⟨c, e⟩]
        · rw [if_neg c]
      rw [z1] at hp
      by_cases c : u = b
      · rw [if_pos c] at hp
        by_cases a : acc b k
        · rw [c]; exact a
        · rw [if_neg a] at hp; omega
      · rw [if_neg c] at hp; omega
  l0 k hk := by
    have := h0 k hk
    by_cases e : k = o
    · subst e
      rw [e1_self, if_neg h2]; omega
    · rw [e1_ne e]
      split <;> omega
  cons k hk := by
    rw [sumR_add]
    have e1' : sumR m (fun u => if u = r then e1 o 1 k else 0) = e1 o 1 k := by
      have := sumR_pick m (fun _ => e1 o 1 k) r hr
      exact this
    have e2' : sumR m (fun u => if u = b then (if acc b k then stock k else 0) else 0) = if acc b k then stock k else 0 := by
      have := sumR_pick m (fun _ => if acc b k then stock k else 0) b hb
      exact this
    rw [e1', e2']; omega
  cnt u hu := by
    rw [sumR_add]
    have e1' : sumR n (fun k => if u = r then e1 o 1 k else 0) = e1 r 1 u := by
      by_cases c : u = r
      · simp only [if_pos c]
        rw [sumR_e1, if_pos ho, c, e1_self]
      · simp only [if_neg c]
        rw [sumR_zero, e1_ne c]
    have e2' : sumR n (fun k => if u = b then (if acc b k then stock k else 0) else 0) = e1 b (sumR n fun k => if acc b k then stock k else 0) u := by
      by_cases c : u = b
      · simp only [if_pos c]
        rw [c, e1_self]
      · simp only [if_neg c]
        rw [sumR_zero, e1_ne c]
    rw [e1', e2']
end
instance {lots : List (List Int)} : DecidableRel (accL lots) := fun u k => inferInstanceAs (Decidable ((k : Int) ∈ lots.getD u []))
theorem units_acc {n : Nat} {lots : List (List Int)} {stock : List Int} {b : Nat} (hB : listB (lots.getD b []) n = true) : unitsIn stock (lots.getD b []) = sumR n fun k => if accL lots b k then gD stock k else 0 :=
  units_sum n stock _ (listB_nodup hB) (listB_iff.mp hB).1
/-- with whole stock i requests of b beside r are not all -/
theorem whole_more {n : Nat} {lots : List (List Int)} {stock : List Int} {r b o i : Nat} (hB : listB (lots.getD b []) n = true) (hr : r < lots.length) (hb : b < lots.length) (ho : o < n) (h1 : accL lots r o) (h2 : ¬ accL lots b o) (h0 : ∀ k, k < n → 0 ≤ gD stock k) (hs : 0 < gD stock o) (hi : (i : Int) < unitsIn stock (lots.getD b [])) :
    ¬ Full lots.length n (accL lots) (gD stock) (fun u => e1 r 1 u + e1 b i u) b := fun F => by
  have S := both_served (m := lots.length) (n := n) (acc := accL lots) (stock := gD stock) hr hb ho h1 h2 h0 hs
  rw [← units_acc hB] at S
  have hrb : b ≠ r := fun e => h2 (e ▸ h1)
  have := F _ _ _ S fun u hu => by
    show e1 r 1 u + e1 b (i : Int) u ≤ e1 r 1 u + e1 b (unitsIn stock (lots.getD b [])) u
    unfold e1
    split <;> split <;> omega
  simp only [e1_self, e1_ne hrb] at this
  omega
/-! ### what the defs promise -/
section
def spUnits (K : PySem.W.Frag) : Sp := fun vs H Q _ => ∃ (vk vl : V) (stock lot : List Int), vs = [vk, vl] ∧ Is K H vk (Tup.mk stock) ∧ Is K H vl (Tup.mk lot) ∧ (∀ k ∈ lot, 0 ≤ k ∧ k < stock.length) ∧ lot.length ≤ 1000 ∧ ∀ H', Kp [] H H' → Q (.int (unitsIn stock lot)) H'
def spOffered (K : PySem.W.Frag) (C : Addr) : Sp := fun vs H Q _ => ∃ (t : Addr) (vk : V) (kn : List Str) (types : List (Str × TInt)) (stock : List Int) (r : Nat), vs = [.ref t, vk, .int r] ∧ TabR K C H t kn types ∧ Is K H vk (Tup.mk stock) ∧ stock.length = kn.length ∧ r < types.length ∧
  ∀ H' p, Kp [] H H' → H p = none → H' p = some (.lst ((handOf (lotsOf types) stock r).map V.int)) → Q (.ref p) H'
def spBeside (K : PySem.W.Frag) (C : Addr) : Sp := fun vs H Q _ => ∃ (t : Addr) (kn : List Str) (types : List (Str × TInt)) (k o : Int), vs = [.ref t, .int k, .int o] ∧ TabR K C H t kn types ∧
  ∀ H' p, Kp [] H H' → H p = none → H' p = some (.lst ((besideOf (lotsOf types) k o).map V.int)) → Q (.ref p) H'
def spLeastK (K : PySem.W.Frag) (C : Addr) : Sp := fun vs H Q _ => ∃ (t : Addr) (vk : V) (kn : List Str) (types : List (Str × TInt)) (stock : List Int) (r : Nat), vs = [.ref t, vk, .int r] ∧ TabR K C H t kn types ∧ Is K H vk (Tup.mk stock) ∧ stock.length = kn.length ∧ r < types.length ∧
  ∀ H' v, Kp [] H H' → Is K H' v (Tup.mk (leastOf (lotsOf types) (handOf (lotsOf types) stock r))) → Q v H'
/-- what tells that the kind k is wrong for r: a type b that takes k and not o -/
structure WrongR (lots : List (List Int)) (stock : List Int) (r : Nat) (k : Int) (b : Nat) (o : Int) : Prop where
  hk : k ∈ handOf lots stock r
  ho : o ∈ handOf lots stock r
  hb : b < lots.length
  kb : k ∈ lots.getD b []
  ob : o ∉ lots.getD b []
def spWrong (K : PySem.W.Frag) (C CR : Addr) : Sp := fun vs H Q E => ∃ (t : Addr) (vk v : V) (kn : List Str) (types : List (Str × TInt)) (stock : List Int) (r : Nat), vs = [.ref t, vk, .int r, v] ∧ TabR K C H t kn types ∧ Is K H vk (Tup.mk stock) ∧ stock.length = kn.length ∧ r < types.length ∧ (∀ x ∈ stock, 0 ≤ x ∧ x ≤ 1000) ∧
  (OddV K H v ∨ ∃ z : Int, v = .int z) ∧
  ((OddV K H v ∨ ∃ z, v = .int z ∧ z ∉ handOf (lotsOf types) stock r) → ∀ H' d, Kp [] H H' → H' d = some (.xd [("word", .str "kind")]) → E (.ref CR) (some d) H') ∧
  ∀ z : Int, v = .int z → z ∈ handOf (lotsOf types) stock r → (∀ H', Kp [] H H' → z ∈ leastOf (lotsOf types) (handOf (lotsOf types) stock r) → Q .non H') ∧
    ∀ H' w b o, Kp [] H H' → z ∉ leastOf (lotsOf types) (handOf (lotsOf types) stock r) → WrongR (lotsOf types) stock r z b o → Is K H' w (Tup.mk (List.replicate (unitsIn stock ((lotsOf types).getD b [])).toNat (b : Int))) → Q w H'
def spLeastL (K : PySem.W.Frag) : Sp := fun vs H Q _ => ∃ (l h : Addr) (lots : List (List Int)) (hand : List Int), vs = [.ref l, .ref h] ∧ LotsR K H l lots ∧ SqL K H h (hand.map V.int) ∧ lots.length ≤ 1000 ∧ hand.length ≤ 1000 ∧
  ∀ H' p, Kp [] H H' → H p = none → H' p = some (.lst ((leastL lots hand).map V.int)) → Q (.ref p) H'
def spShows (K : PySem.W.Frag) : Sp := fun vs H Q _ => ∃ (l : Addr) (vk vp vr : V) (lots : List (List Int)) (stock : List Int) (r b : Nat) (k o : Int), vs = [.ref l, vk, vp, vr] ∧ LotsR K H l lots ∧ (∃ o, H l = some o) ∧ Is K H vk (Tup.mk stock) ∧ Is K H vp ((r : Int), k) ∧ Is K H vr (Tup.mk (List.replicate (unitsIn stock (lots.getD b [])).toNat (b : Int))) ∧
  lots.length ≤ 1000 ∧ stock.length ≤ 1000 ∧ (∀ t ∈ lots, listB t stock.length = true) ∧ (∀ x ∈ stock, 0 ≤ x ∧ x ≤ 1000) ∧ r < lots.length ∧ WrongR lots stock r k b o ∧ ∀ H', Kp [] H H' → Q (.bl true) H'
def spIsRow (K : PySem.W.Frag) : Sp := fun vs H Q _ => ∃ (v : V) (xs : List Int) (b : Int), vs = [v, .int b] ∧ Is K H v (Tup.mk xs) ∧ xs.length ≤ 100000 ∧ (∀ x ∈ xs, 0 ≤ x ∧ x < b) ∧ ∀ H', Kp [] H H' → Q (.bl true) H'
def spLawNum : Sp := fun vs H Q _ => ∃ i b : Int, vs = [.int i, .int b] ∧ Q (.bl (decide (0 ≤ i ∧ i < b))) H
def spNumX (K : PySem.W.Frag) : Sp := fun vs H Q _ => ∃ v, vs = [v] ∧ ((OddV K H v ∧ Q (.bl false) H) ∨ ∃ i : Int, v = .int i ∧ Q (.bl (decide (0 ≤ i))) H)
def spIntA (K : PySem.W.Frag) : Sp := fun vs H Q _ => ∃ v, vs = [v] ∧ ((OddV K H v ∧ Q (.bl false) H) ∨ ∃ i : Int, v = .int i ∧ Q (.bl true) H)
def spRefK (K : PySem.W.Frag) (C : Addr) : Sp := fun vs H Q _ => ∃ (t : Addr) (vk v : V) (kn : List Str) (types : List (Str × TInt)) (stock : List Int) (r : Nat), vs = [.ref t, vk, .int r, v] ∧ TabR K C H t kn types ∧ Is K H vk (Tup.mk stock) ∧ stock.length = kn.length ∧ r < types.length ∧ (∀ x ∈ stock, 0 ≤ x ∧ x ≤ 1000) ∧
  (OddV K H v ∨ ∃ z, v = .int z ∧ z ∉ handOf (lotsOf types) stock r) ∧ ∀ H', Kp [] H H' → Q (.bl true) H'
end
theorem wrong_units {lots : List (List Int)} {stock : List Int} {r b : Nat} {k o : Int} (h : WrongR lots stock r k b o) (hB : ∀ t ∈ lots, listB t stock.length = true) (hs : ∀ x ∈ stock, 0 ≤ x ∧ x ≤ 1000) : 1 ≤ unitsIn stock (lots.getD b []) := by
  have hb := hB _ (getD_mem h.hb)
  rw [units_acc hb]
  obtain ⟨h1, h2⟩ := hand_mem.mp h.hk
  have hr := (listB_iff.mp hb).1 k h.kb
  have := sumR_ge_one (n := stock.length) (f := fun k => if accL lots b k then gD stock k else 0) (fun i hi => by
    have g : stock[i]? = some stock[i] := List.getElem?_eq_getElem hi
    have : 0 ≤ gD stock i := by rw [gD_get g]; exact (hs _ (List.getElem_mem _)).1
    show 0 ≤ if accL lots b i then gD stock i else 0
    split <;> omega) (show k.toNat < stock.length by omega)
  have e : (if accL lots b k.toNat then gD stock k.toNat else 0) = gD stock k.toNat := if_pos (by show ((k.toNat : Nat) : Int) ∈ _; rw [Int.toNat_of_nonneg hr.1]; exact h.kb)
  rw [e] at this
  have h2 : 0 < gD stock k.toNat := h2
  omega
theorem units_le {stock : List Int} (hs : ∀ x ∈ stock, 0 ≤ x ∧ x ≤ 1000) : ∀ lot : List Int, unitsIn stock lot ≤ 1000 * lot.length
  | [] => by simp [unitsIn]
  | k :: lot => by
    have ih := units_le hs lot
    have : unitsIn stock (k :: lot) = gD stock k.toNat + unitsIn stock lot := by unfold unitsIn gD; simp
    have h : gD stock k.toNat ≤ 1000 := by
      cases e : stock[k.toNat]? with
      | none => unfold gD; rw [List.getD_eq_getElem?_getD, e]; decide
      | some z => rw [gD_get e]; exact (hs z (List.mem_of_getElem? e)).2
    rw [this, List.length_cons]
    omega
end KP
namespace KP
open PySem PySem.Spec PyProof.Rows L2
open PySem.W (Datum Tup DatumOrd)
open FL
theorem ixN_nat {n j : Nat} (hj : j < n) : ixN n (j : Int) = some j := by
  unfold ixN
  rw [if_pos (by omega), if_pos (by omega)]
  simp
theorem WayOk.kp {K : PySem.W.Frag} {M : List Addr} {H H' : Hp} {l S L G : Addr} {gs : List Addr} {lots : List (List Int)} {left : List Int} {gives : List (List Int)} (W : WayOk K H l S L G gs lots left gives) (e : Kp M H H') (h : ∀ x ∈ S :: L :: G :: gs, x ∉ M) (hl : l ∉ M) : WayOk K H' l S L G gs lots left gives :=
  ⟨W.st.kp e h, W.lt.kp e hl, W.ml, W.m1, W.n1, W.ok, W.l1, W.l0⟩
/-- new things of two servings, and of what is counted -/
structure Ad (H : Hp) (l : Addr) (A1 A2 : List Addr) (D0 D1 Gn Cn : Addr) : Prop where
  hl : ∃ o, H l = some o
  f1 : ∀ x ∈ A1, H x = none
  f2 : ∀ x ∈ A2, H x = none
  n12 : ∀ x ∈ A1, x ∉ A2
  b1 : ∀ x, x ∈ A1 ∨ x ∈ A2 → x ≠ D0 ∧ x ≠ D1 ∧ x ≠ Gn ∧ x ≠ Cn
  fb : H D0 = none ∧ H D1 = none ∧ H Gn = none ∧ H Cn = none
  nb : D0 ≠ D1 ∧ D0 ≠ Gn ∧ D0 ≠ Cn ∧ D1 ≠ Gn ∧ D1 ≠ Cn ∧ Gn ≠ Cn
theorem Ad.ln {H : Hp} {l : Addr} {A1 A2 : List Addr} {D0 D1 Gn Cn : Addr} (a : Ad H l A1 A2 D0 D1 Gn Cn) {x : Addr} (h : H x = none) : l ≠ x := by
  obtain ⟨o, ho⟩ := a.hl
  exact ne_of_none ho h
structure ShI (K : PySem.W.Frag) (H H' : Hp) (l S1 L1 G1 : Addr) (gs1 : List Addr) (S2 L2 G2 : Addr) (gs2 : List Addr) (D0 D1 Gn Cn : Addr) (lots : List (List Int)) (stock stock2 : List Int) (r b i j : Nat) (c0 c1 : Int) (g1 : List Nat) : Prop where
  e : Kp [] H H'
  w1 : ∃ left gives, WayOk K H' l S1 L1 G1 gs1 lots left gives ∧ left.length = stock.length ∧ SOk lots.length stock.length (accL lots) (gD stock) (gG gives) (gD left) (fun u => e1 r 1 u + e1 b i u)
  w2 : ∃ left gives, WayOk K H' l S2 L2 G2 gs2 lots left gives ∧ left.length = stock.length ∧ SOk lots.length stock.length (accL lots) (gD stock2) (gG gives) (gD left) (fun u => e1 b j u)
  hC : H' Cn = some (.lst [.int c0, .int c1])
  hG : H' Gn = some (.lst [.ref D0, .ref D1])
  d0 : H' D0 = some (.dK (dB []))
  d1 : H' D1 = some (.dK (dB g1))
section
variable {K : PySem.W.Frag} {H H' H2 : Hp} {l S1 L1 G1 : Addr} {gs1 : List Addr} {S2 L2 G2 : Addr} {gs2 : List Addr} {D0 D1 Gn Cn : Addr} {lots : List (List Int)} {stock stock2 : List Int} {r b i j : Nat} {c0 c1 : Int} {g1 : List Nat}
theorem ShI.kp (s : ShI K H H' l S1 L1 G1 gs1 S2 L2 G2 gs2 D0 D1 Gn Cn lots stock stock2 r b i j c0 c1 g1) (e : Kp [] H' H2) : ShI K H H2 l S1 L1 G1 gs1 S2 L2 G2 gs2 D0 D1 Gn Cn lots stock stock2 r b i j c0 c1 g1 := by
  obtain ⟨l1, gi1, W1, h1, o1⟩ := s.w1
  obtain ⟨l2, gi2, W2, h2, o2⟩ := s.w2
  exact ⟨s.e.trans e, ⟨l1, gi1, W1.kp e (by simp) (by simp), h1, o1⟩, ⟨l2, gi2, W2.kp e (by simp) (by simp), h2, o2⟩, e.keep _ _ s.hC (by simp), e.keep _ _ s.hG (by simp), e.keep _ _ s.d0 (by simp), e.keep _ _ s.d1 (by simp)⟩
theorem ShI.add1 (s : ShI K H H' l S1 L1 G1 gs1 S2 L2 G2 gs2 D0 D1 Gn Cn lots stock stock2 r b i j c0 c1 g1) (a : Ad H l (S1 :: L1 :: G1 :: gs1) (S2 :: L2 :: G2 :: gs2) D0 D1 Gn Cn) (e : Kp (L1 :: gs1) H' H2) {left : List Int} {gives : List (List Int)}
    (W : WayOk K H2 l S1 L1 G1 gs1 lots left gives) (h : left.length = stock.length) (o : SOk lots.length stock.length (accL lots) (gD stock) (gG gives) (gD left) (fun u => e1 r 1 u + e1 b (i + 1 : Nat) u)) :
    ShI K H H2 l S1 L1 G1 gs1 S2 L2 G2 gs2 D0 D1 Gn Cn lots stock stock2 r b (i + 1) j c0 c1 g1 := by
  obtain ⟨l2, gi2, W2, h2, o2⟩ := s.w2
  have mm : ∀ x ∈ L1 :: gs1, x ∈ S1 :: L1 :: G1 :: gs1 := fun x hx => by rcases List.mem_cons.mp hx with e | hx; simp [e]; simp [hx]
  have nn : ∀ y, (∀ x ∈ S1 :: L1 :: G1 :: gs1, x ≠ y) → y ∉ L1 :: gs1 := fun y hy m => hy y (mm y m) rfl
  refine ⟨s.e.hide e fun x hx => .inr (a.f1 x (mm x hx)), ⟨left, gives, W, h, o⟩, ⟨l2, gi2, W2.kp e (fun x hx m => a.n12 x (mm x m) hx) (fun m => a.ln (a.f1 l (mm l m)) rfl), h2, o2⟩, e.keep _ _ s.hC (nn _ fun x hx => (a.b1 x (.inl hx)).2.2.2), e.keep _ _ s.hG (nn _ fun x hx => (a.b1 x (.inl hx)).2.2.1), e.keep _ _ s.d0 (nn _ fun x hx => (a.b1 x (.inl hx)).1), e.keep _ _ s.d1 (nn _ fun x hx => (a.b1 x (.inl hx)).2.1)⟩
theorem ShI.add2 (s : ShI K H H' l S1 L1 G1 gs1 S2 L2 G2 gs2 D0 D1 Gn Cn lots stock stock2 r b i j c0 c1 g1) (a : Ad H l (S1 :: L1 :: G1 :: gs1) (S2 :: L2 :: G2 :: gs2) D0 D1 Gn Cn) (e : Kp (L2 :: gs2) H' H2) {left : List Int} {gives : List (List Int)}
    (W : WayOk K H2 l S2 L2 G2 gs2 lots left gives) (h : left.length = stock.length) (o : SOk lots.length stock.length (accL lots) (gD stock2) (gG gives) (gD left) (fun u => e1 b (j + 1 : Nat) u)) :
    ShI K H H2 l S1 L1 G1 gs1 S2 L2 G2 gs2 D0 D1 Gn Cn lots stock stock2 r b i (j + 1) c0 c1 g1 := by
  obtain ⟨l1, gi1, W1, h1, o1⟩ := s.w1
  have mm : ∀ x ∈ L2 :: gs2, x ∈ S2 :: L2 :: G2 :: gs2 := fun x hx => by rcases List.mem_cons.mp hx with e | hx; simp [e]; simp [hx]
  have nn : ∀ y, (∀ x ∈ S2 :: L2 :: G2 :: gs2, x ≠ y) → y ∉ L2 :: gs2 := fun y hy m => hy y (mm y m) rfl
  refine ⟨s.e.hide e fun x hx => .inr (a.f2 x (mm x hx)), ⟨l1, gi1, W1.kp e (fun x hx m => a.n12 x hx (mm x m)) (fun m => a.ln (a.f2 l (mm l m)) rfl), h1, o1⟩, ⟨left, gives, W, h, o⟩, e.keep _ _ s.hC (nn _ fun x hx => (a.b1 x (.inr hx)).2.2.2), e.keep _ _ s.hG (nn _ fun x hx => (a.b1 x (.inr hx)).2.2.1), e.keep _ _ s.d0 (nn _ fun x hx => (a.b1 x (.inr hx)).1), e.keep _ _ s.d1 (nn _ fun x hx => (a.b1 x (.inr hx)).2.1)⟩
theorem ShI.cnt (s : ShI K H H' l S1 L1 G1 gs1 S2 L2 G2 gs2 D0 D1 Gn Cn lots stock stock2 r b i j c0 c1 g1) (a : Ad H l (S1 :: L1 :: G1 :: gs1) (S2 :: L2 :: G2 :: gs2) D0 D1 Gn Cn) (z0 z1 : Int) :
    ShI K H (upd H' Cn (.lst [.int z0, .int z1])) l S1 L1 G1 gs1 S2 L2 G2 gs2 D0 D1 Gn Cn lots stock stock2 r b i j z0 z1 g1 := by
  obtain ⟨l1, gi1, W1, h1, o1⟩ := s.w1
  obtain ⟨l2, gi2, W2, h2, o2⟩ := s.w2
  have e : Kp [Cn] H' (upd H' Cn (.lst [.int z0, .int z1])) := Kp.set s.hC rfl (by simp)
  have hl : l ∉ [Cn] := by simpa using a.ln a.fb.2.2.2
  refine ⟨s.e.mut a.fb.2.2.2, ⟨l1, gi1, W1.kp e (fun x hx => by simpa using (a.b1 x (.inl hx)).2.2.2) hl, h1, o1⟩, ⟨l2, gi2, W2.kp e (fun x hx => by simpa using (a.b1 x (.inr hx)).2.2.2) hl, h2, o2⟩, upd_same, e.keep _ _ s.hG (by simpa using a.nb.2.2.2.2.2), e.keep _ _ s.d0 (by simpa using a.nb.2.2.1), e.keep _ _ s.d1 (by simpa using a.nb.2.2.2.2.1)⟩
theorem ShI.gone (s : ShI K H H' l S1 L1 G1 gs1 S2 L2 G2 gs2 D0 D1 Gn Cn lots stock stock2 r b i j c0 c1 g1) (a : Ad H l (S1 :: L1 :: G1 :: gs1) (S2 :: L2 :: G2 :: gs2) D0 D1 Gn Cn) (g2 : List Nat) :
    ShI K H (upd H' D1 (.dK (dB g2))) l S1 L1 G1 gs1 S2 L2 G2 gs2 D0 D1 Gn Cn lots stock stock2 r b i j c0 c1 g2 := by
  obtain ⟨l1, gi1, W1, h1, o1⟩ := s.w1
  obtain ⟨l2, gi2, W2, h2, o2⟩ := s.w2
  have e : Kp [D1] H' (upd H' D1 (.dK (dB g2))) := Kp.set s.d1 rfl (by simp)
  have hl : l ∉ [D1] := by simpa using a.ln a.fb.2.1
  refine ⟨s.e.mut a.fb.2.1, ⟨l1, gi1, W1.kp e (fun x hx => by simpa using (a.b1 x (.inl hx)).2.1) hl, h1, o1⟩, ⟨l2, gi2, W2.kp e (fun x hx => by simpa using (a.b1 x (.inr hx)).2.1) hl, h2, o2⟩, e.keep _ _ s.hC (by simpa using a.nb.2.2.2.2.1.symm), e.keep _ _ s.hG (by simpa using a.nb.2.2.2.1.symm), e.keep _ _ s.d0 (by simpa using a.nb.1), upd_same⟩
end
theorem units_less {lots : List (List Int)} {stock : List Int} {b k : Nat} {z : Int} (hB : listB (lots.getD b []) stock.length = true) (hk : (k : Int) ∈ lots.getD b []) (hz : stock[k]? = some z) :
    sumR stock.length (fun j => if accL lots b j then gD (stock.set k (z - 1)) j else 0) = unitsIn stock (lots.getD b []) - 1 := by
  have hkl : k < stock.length := (List.getElem?_eq_some_iff.mp hz).1
  rw [units_acc hB]
  have : sumR stock.length (fun j => (if accL lots b j then gD (stock.set k (z - 1)) j else 0) + e1 k 1 j) = sumR stock.length fun j => if accL lots b j then gD stock j else 0 := sumR_congr _ fun j hj => by
    rw [gD_set hkl]
    unfold e1
    by_cases e : j = k
    · subst e
      rw [if_pos (show accL lots b j from hk), if_pos rfl, if_pos rfl, if_pos (show accL lots b j from hk), gD_get hz]; omega
    · rw [if_neg e, if_neg e]; omega
  rw [sumR_add, sumR_e1, if_pos hkl] at this
  omega
end KP
namespace K85
open PySem PySem.Spec PyProof.Rows L2 KP
open C8 (fnScope fnBody fnArgs fnScope_by)
def topS (i : Nat) : Stmt := PySem.Challenge.pw_neverregret_k85_whole_least_kinds_of_gre.main.body.getD i (.Pass ⟨0, 0, 0, 0⟩)
def inC (i j : Nat) : Stmt := match topS i with
  | .ClassDef _ _ _ body _ _ _ _ _ _ _ => body.getD j (.Pass ⟨0, 0, 0, 0⟩)
  | _ => .Pass ⟨0, 0, 0, 0⟩
abbrev s_Table___init__ : Stmt := inC 18 0
abbrev n_Table___init__ : List Str := ["self", "kinds", "types", "last", "at", "item"]
theorem sc_Table___init__ : FnScope n_Table___init__ ["self", "kinds", "types"] (fnScope s_Table___init__) := fnScope_by (by decide +kernel)
abbrev s_Table___eq__ : Stmt := inC 18 1
abbrev n_Table___eq__ : List Str := ["self", "other"]
theorem sc_Table___eq__ : FnScope n_Table___eq__ ["self", "other"] (fnScope s_Table___eq__) := fnScope_by (by decide +kernel)
abbrev s_is_integer : Stmt := topS 7
abbrev n_is_integer : List Str := ["value"]
theorem sc_is_integer : FnScope n_is_integer ["value"] (fnScope s_is_integer) := fnScope_by (by decide +kernel)
abbrev s_is_number : Stmt := topS 8
abbrev n_is_number : List Str := ["value"]
theorem sc_is_number : FnScope n_is_number ["value"] (fnScope s_is_number) := fnScope_by (by decide +kernel)
abbrev s_is_name : Stmt := topS 9
abbrev n_is_name : List Str := ["value", "sign"]
theorem sc_is_name : FnScope n_is_name ["value"] (fnScope s_is_name) := fnScope_by (by decide +kernel)
abbrev s_are_numbers : Stmt := topS 10
abbrev n_are_numbers : List Str := ["value", "item"]
theorem sc_are_numbers : FnScope n_are_numbers ["value"] (fnScope s_are_numbers) := fnScope_by (by decide +kernel)
abbrev s_is_ascending : Stmt := topS 11
abbrev n_is_ascending : List Str := ["items", "at"]
theorem sc_is_ascending : FnScope n_is_ascending ["items"] (fnScope s_is_ascending) := fnScope_by (by decide +kernel)
abbrev s_is_listing : Stmt := topS 12
abbrev n_is_listing : List Str := ["value", "bound", "item"]
theorem sc_is_listing : FnScope n_is_listing ["value", "bound"] (fnScope s_is_listing) := fnScope_by (by decide +kernel)
abbrev s_are_kinds : Stmt := topS 16
abbrev n_are_kinds : List Str := ["value", "name"]
theorem sc_are_kinds : FnScope n_are_kinds ["value"] (fnScope s_are_kinds) := fnScope_by (by decide +kernel)
abbrev s_is_type : Stmt := topS 17
abbrev n_is_type : List Str := ["kinds", "value", "last"]
theorem sc_is_type : FnScope n_is_type ["kinds", "value", "last"] (fnScope s_is_type) := fnScope_by (by decide +kernel)
abbrev s_accepted : Stmt := topS 19
abbrev n_accepted : List Str := ["table", "request"]
theorem sc_accepted : FnScope n_accepted ["table", "request"] (fnScope s_accepted) := fnScope_by (by decide +kernel)
abbrev s_takers : Stmt := topS 20
abbrev n_takers : List Str := ["table", "kind", "number", "name", "lot"]
theorem sc_takers : FnScope n_takers ["table", "kind"] (fnScope s_takers) := fnScope_by (by decide +kernel)
abbrev s_units_in : Stmt := topS 22
abbrev n_units_in : List Str := ["stock", "kinds", "kind"]
theorem sc_units_in : FnScope n_units_in ["stock", "kinds"] (fnScope s_units_in) := fnScope_by (by decide +kernel)
abbrev s_offered_kinds : Stmt := topS 24
abbrev n_offered_kinds : List Str := ["table", "stock", "request", "kind"]
theorem sc_offered_kinds : FnScope n_offered_kinds ["table", "stock", "request"] (fnScope s_offered_kinds) := fnScope_by (by decide +kernel)
abbrev s_takers_beside : Stmt := topS 25
abbrev n_takers_beside : List Str := ["table", "kind", "other", "others", "request"]
theorem sc_takers_beside : FnScope n_takers_beside ["table", "kind", "other"] (fnScope s_takers_beside) := fnScope_by (by decide +kernel)
abbrev s_least_kinds : Stmt := topS 26
abbrev n_least_kinds : List Str := ["table", "stock", "request", "some", "kind", "other"]
theorem sc_least_kinds : FnScope n_least_kinds ["table", "stock", "request"] (fnScope s_least_kinds) := fnScope_by (by decide +kernel)
abbrev s_wrong_row : Stmt := topS 27
abbrev n_wrong_row : List Str := ["table", "stock", "request", "kind", "some", "other", "beside"]
theorem sc_wrong_row : FnScope n_wrong_row ["table", "stock", "request", "kind"] (fnScope s_wrong_row) := fnScope_by (by decide +kernel)
abbrev s__law_heap : Stmt := topS 29
abbrev n__law_heap : List Str := ["script", "cells", "stir", "cell"]
theorem sc__law_heap : FnScope n__law_heap ["script"] (fnScope s__law_heap) := fnScope_by (by decide +kernel)
abbrev s__law_draw : Stmt := topS 30
abbrev n__law_draw : List Str := ["heap", "many", "rest"]
theorem sc__law_draw : FnScope n__law_draw ["heap", "many"] (fnScope s__law_draw) := fnScope_by (by decide +kernel)
abbrev s__law_pick : Stmt := topS 31
abbrev n__law_pick : List Str := ["heap", "some"]
theorem sc__law_pick : FnScope n__law_pick ["heap", "some"] (fnScope s__law_pick) := fnScope_by (by decide +kernel)
abbrev s__law_names : Stmt := topS 32
abbrev n__law_names : List Str := ["heap", "many", "found", "at", "word", "turn"]
theorem sc__law_names : FnScope n__law_names ["heap", "many"] (fnScope s__law_names) := fnScope_by (by decide +kernel)
abbrev s__law_table : Stmt := topS 33
abbrev n__law_table : List Str := ["heap", "kinds", "lots", "names", "at"]
theorem sc__law_table : FnScope n__law_table ["heap", "kinds", "lots"] (fnScope s__law_table) := fnScope_by (by decide +kernel)
abbrev s__law_shuffled : Stmt := topS 34
abbrev n__law_shuffled : List Str := ["heap", "some", "rest", "found"]
theorem sc__law_shuffled : FnScope n__law_shuffled ["heap", "some"] (fnScope s__law_shuffled) := fnScope_by (by decide +kernel)
abbrev s__law_lots : Stmt := topS 35
abbrev n__law_lots : List Str := ["heap", "kinds", "many", "sparse", "found", "at", "lot", "kind"]
theorem sc__law_lots : FnScope n__law_lots ["heap", "kinds", "many"] (fnScope s__law_lots) := fnScope_by (by decide +kernel)
abbrev s__law_forest : Stmt := topS 36
abbrev n__law_forest : List Str := ["heap", "kinds", "many", "above", "order", "found", "at", "kind", "lot", "turn"]
theorem sc__law_forest : FnScope n__law_forest ["heap", "kinds", "many"] (fnScope s__law_forest) := fnScope_by (by decide +kernel)
abbrev s__law_is_number : Stmt := topS 37
abbrev n__law_is_number : List Str := ["value", "bound"]
theorem sc__law_is_number : FnScope n__law_is_number ["value", "bound"] (fnScope s__law_is_number) := fnScope_by (by decide +kernel)
abbrev s__law_same : Stmt := topS 38
abbrev n__law_same : List Str := ["told", "due", "at"]
theorem sc__law_same : FnScope n__law_same ["told", "due"] (fnScope s__law_same) := fnScope_by (by decide +kernel)
abbrev s__law_start : Stmt := topS 39
abbrev n__law_start : List Str := ["lots", "stock", "lot"]
theorem sc__law_start : FnScope n__law_start ["lots", "stock"] (fnScope s__law_start) := fnScope_by (by decide +kernel)
abbrev s__law_way : Stmt := topS 40
abbrev n__law_way : List Str := ["lots", "state", "start", "left", "gives", "comes", "holds", "row", "request", "kind", "way", "before", "other"]
theorem sc__law_way : FnScope n__law_way ["lots", "state", "start"] (fnScope s__law_way) := fnScope_by (by decide +kernel)
abbrev s__law_add : Stmt := topS 41
abbrev n__law_add : List Str := ["lots", "state", "request", "way", "before", "one", "kind", "row", "left"]
theorem sc__law_add : FnScope n__law_add ["lots", "state", "request"] (fnScope s__law_add) := fnScope_by (by decide +kernel)
abbrev s__law_least : Stmt := topS 42
abbrev n__law_least : List Str := ["lots", "hand", "found", "kind", "takers_v", "lot", "other"]
theorem sc__law_least : FnScope n__law_least ["lots", "hand"] (fnScope s__law_least) := fnScope_by (by decide +kernel)
abbrev s__law_shows : Stmt := topS 43
abbrev n__law_shows : List Str := ["lots", "stock", "pair", "row", "request", "kind", "whole", "less", "gone", "counts", "one", "side", "spent"]
theorem sc__law_shows : FnScope n__law_shows ["lots", "stock", "pair", "row"] (fnScope s__law_shows) := fnScope_by (by decide +kernel)
abbrev s__law_is_row : Stmt := topS 44
abbrev n__law_is_row : List Str := ["told", "many", "one"]
theorem sc__law_is_row : FnScope n__law_is_row ["told", "many"] (fnScope s__law_is_row) := fnScope_by (by decide +kernel)
abbrev s__law_refused : Stmt := topS 45
abbrev n__law_refused : List Str := ["table", "stock", "request", "value", "error"]
theorem sc__law_refused : FnScope n__law_refused ["table", "stock", "request", "value"] (fnScope s__law_refused) := fnScope_by (by decide +kernel)
abbrev s_law : Stmt := topS 46
abbrev n_law : List Str := ["script", "heap", "kinds", "many", "lots", "most", "table", "stock", "request", "hand", "least", "odd", "kind", "told"]
theorem sc_law : FnScope n_law ["script"] (fnScope s_law) := fnScope_by (by decide +kernel)
structure Txt (P : Program) (K : PySem.W.Frag) (mg : Str → Option Value) (C_Table C_Refused C_DeskError : Addr) : Prop where
  m_abs : mg "abs" = none
  m_all : mg "all" = none
  m_bool : mg "bool" = none
  m_enumerate : mg "enumerate" = none
  m_int : mg "int" = none
  m_isinstance : mg "isinstance" = none
  m_len : mg "len" = none
  m_list : mg "list" = none
  m_range : mg "range" = none
  m_sorted : mg "sorted" = none
  m_str : mg "str" = none
  m_sum : mg "sum" = none
  m_tuple : mg "tuple" = none
  g_LETTERS : ∃ u, mg "LETTERS" = some u ∧ RelV (.str "abcdefghijklmnopqrstuvwxyz") u
  g_LONGEST_NAME : ∃ u, mg "LONGEST_NAME" = some u ∧ RelV (.int 8) u
  g_MOST_KINDS : ∃ u, mg "MOST_KINDS" = some u ∧ RelV (.int 8) u
  g_MOST_TYPES : ∃ u, mg "MOST_TYPES" = some u ∧ RelV (.int 12) u
  k_Table : ∃ f fd, Mk K C_Table f ∧ mg "Table" = some (.ref C_Table) ∧ C8.Fun K "__init__" "Table.__init__" s_Table___init__ f fd ∧ Binds K fd ["self", "kinds", "types"] []
  d_Table___eq__ : ∃ f fd, Meth K C_Table "__eq__" f ∧ C8.Fun K "__eq__" "Table.__eq__" s_Table___eq__ f fd ∧ Binds K fd ["self", "other"] []
  d_is_integer : ∃ f fd, C8.Def K mg "is_integer" s_is_integer f fd ∧ Binds K fd ["value"] []
  d_is_number : ∃ f fd, C8.Def K mg "is_number" s_is_number f fd ∧ Binds K fd ["value"] []
  d_is_name : ∃ f fd, C8.Def K mg "is_name" s_is_name f fd ∧ Binds K fd ["value"] []
  d_are_numbers : ∃ f fd, C8.Def K mg "are_numbers" s_are_numbers f fd ∧ Binds K fd ["value"] []
  d_is_ascending : ∃ f fd, C8.Def K mg "is_ascending" s_is_ascending f fd ∧ Binds K fd ["items"] []
  d_is_listing : ∃ f fd, C8.Def K mg "is_listing" s_is_listing f fd ∧ Binds K fd ["value", "bound"] []
  d_are_kinds : ∃ f fd, C8.Def K mg "are_kinds" s_are_kinds f fd ∧ Binds K fd ["value"] []
  d_is_type : ∃ f fd, C8.Def K mg "is_type" s_is_type f fd ∧ Binds K fd ["kinds", "value", "last"] []
  d_accepted : ∃ f fd, C8.Def K mg "accepted" s_accepted f fd ∧ Binds K fd ["table", "request"] []
  d_takers : ∃ f fd, C8.Def K mg "takers" s_takers f fd ∧ Binds K fd ["table", "kind"] []
  d_units_in : ∃ f fd, C8.Def K mg "units_in" s_units_in f fd ∧ Binds K fd ["stock", "kinds"] []
  d_offered_kinds : ∃ f fd, C8.Def K mg "offered_kinds" s_offered_kinds f fd ∧ Binds K fd ["table", "stock", "request"] []
  d_takers_beside : ∃ f fd, C8.Def K mg "takers_beside" s_takers_beside f fd ∧ Binds K fd ["table", "kind", "other"] []
  d_least_kinds : ∃ f fd, C8.Def K mg "least_kinds" s_least_kinds f fd ∧ Binds K fd ["table", "stock", "request"] []
  d_wrong_row : ∃ f fd, C8.Def K mg "wrong_row" s_wrong_row f fd ∧ Binds K fd ["table", "stock", "request", "kind"] []
  d__law_heap : ∃ f fd, C8.Def K mg "_law_heap" s__law_heap f fd ∧ Binds K fd ["script"] []
  d__law_draw : ∃ f fd, C8.Def K mg "_law_draw" s__law_draw f fd ∧ Binds K fd ["heap", "many"] []
  d__law_pick : ∃ f fd, C8.Def K mg "_law_pick" s__law_pick f fd ∧ Binds K fd ["heap", "some"] []
  d__law_names : ∃ f fd, C8.Def K mg "_law_names" s__law_names f fd ∧ Binds K fd ["heap", "many"] []
  d__law_table : ∃ f fd, C8.Def K mg "_law_table" s__law_table f fd ∧ Binds K fd ["heap", "kinds", "lots"] []
  d__law_shuffled : ∃ f fd, C8.Def K mg "_law_shuffled" s__law_shuffled f fd ∧ Binds K fd ["heap", "some"] []
  d__law_lots : ∃ f fd, C8.Def K mg "_law_lots" s__law_lots f fd ∧ Binds K fd ["heap", "kinds", "many"] []
  d__law_forest : ∃ f fd, C8.Def K mg "_law_forest" s__law_forest f fd ∧ Binds K fd ["heap", "kinds", "many"] []
  d__law_is_number : ∃ f fd, C8.Def K mg "_law_is_number" s__law_is_number f fd ∧ Binds K fd ["value", "bound"] []
  d__law_same : ∃ f fd, C8.Def K mg "_law_same" s__law_same f fd ∧ Binds K fd ["told", "due"] []
  d__law_start : ∃ f fd, C8.Def K mg "_law_start" s__law_start f fd ∧ Binds K fd ["lots", "stock"] []
  d__law_way : ∃ f fd, C8.Def K mg "_law_way" s__law_way f fd ∧ Binds K fd ["lots", "state", "start"] []
  d__law_add : ∃ f fd, C8.Def K mg "_law_add" s__law_add f fd ∧ Binds K fd ["lots", "state", "request"] []
  d__law_least : ∃ f fd, C8.Def K mg "_law_least" s__law_least f fd ∧ Binds K fd ["lots", "hand"] []
  d__law_shows : ∃ f fd, C8.Def K mg "_law_shows" s__law_shows f fd ∧ Binds K fd ["lots", "stock", "pair", "row"] []
  d__law_is_row : ∃ f fd, C8.Def K mg "_law_is_row" s__law_is_row f fd ∧ Binds K fd ["told", "many"] []
  d__law_refused : ∃ f fd, C8.Def K mg "_law_refused" s__law_refused f fd ∧ Binds K fd ["table", "stock", "request", "value"] []
  d_law : ∃ f fd, C8.Def K mg "law" s_law f fd ∧ Binds K fd ["script"] []
  sx_Refused : PySem.KPX.SupX P K mg "Refused" "word" C_Refused
  ed_Refused : KP.ExcD K C_Refused
  te_Refused_Refused : PySem.W.exmOne K (.ref C_Refused) (.ref C_Refused) = some true
  te_Refused_DeskError : PySem.W.exmOne K (.ref C_Refused) (.ref C_DeskError) = some true
  gC_Refused : mg "Refused" = some (.ref C_Refused)
  gC_DeskError : mg "DeskError" = some (.ref C_DeskError)
  cl_Table : Cls K C_Table
  gC_Table : mg "Table" = some (.ref C_Table)
  na_Table_kinds : NoAttr K C_Table "kinds"
  na_Table_types : NoAttr K C_Table "types"
end K85
local macro_rules | `(tactic| walk_at "kp_c") => `(tactic| first
  | decide | omega | (left; constructor <;> omega) | (right; constructor <;> omega) | (constructor <;> omega) | (show 2 ≤ sizeLine; decide) | (show 1 ≤ sizeLine; decide) | (show 0 ≤ sizeLine; decide) | (exact Nat.le_trans (m := 1000) (Nat.le_of_ble_eq_true rfl) (by decide)) | rfl | assumption)
local macro_rules | `(tactic| walk_at "kpA") => `(tactic| with_reducible (first
  | refine KP.w_seq ?_ | refine KP.w_asg ?_ | refine KP.w_gName ?_ | refine KP.w_c ?_ | refine KP.w_op ?_ | refine KP.w_un ?_ | refine KP.w_ret ?_ | refine KP.w_retN ?_
  | refine KP.w_call ?_ | refine KP.w_cons ?_ | refine KP.w_nil ?_ | refine KP.w_cb ?_ | refine KP.w_ifS ?_ | refine KP.w_tB ?_ | refine KP.w_tTest ?_ | refine KP.w_blV ?_ | refine KP.w_rEqI ?_ | refine KP.w_rNeI ?_
  | refine KP.w_rI0 ?_ | refine KP.w_rU ?_ | refine KP.w_tAnd ?_ | refine KP.w_tOr ?_ | refine KP.w_tNot ?_ | refine KP.w_tAndV ?_ | refine KP.w_tOrV ?_ | refine KP.w_tNotV ?_ | refine KP.w_tIf ?_ | refine KP.w_tChain ?_
  | refine KP.w_isN ?_ | refine KP.w_notN ?_ | refine KP.w_noPart ?_ | refine KP.w_part ?_ | refine KP.w_parV ?_ | refine KP.w_sl ?_ | refine KP.w_bm0 ?_ | refine KP.w_bm ?_ | refine KP.w_rev ?_
  | refine KP.w_meth ?_ | refine KP.w_make ?_ | refine KP.w_fld ?_ | refine KP.w_sfld ?_ | refine KP.w_drop ?_ | refine KP.w_next ?_ | refine KP.w_break ?_ | refine KP.w_cont ?_ | refine KP.w_tup ?_ | refine KP.w_lst ?_
  | refine KP.w_gCons ?_ | refine KP.w_gNil ?_ | refine KP.w_gFld ?_ | refine KP.w_gSub ?_ | refine KP.w_par ?_ | refine KP.w_par2 ?_ | refine KP.w_par3 ?_ | refine KP.w_par3V ?_
  | refine KP.w_itT ?_ | refine KP.w_itF ?_ | refine KP.w_itNT ?_ | refine KP.w_itNF ?_ | refine KP.w_ifRefNon ?_ | refine KP.w_ifIntNon ?_ | refine KP.w_ifNonNon ?_ | refine KP.w_ifRefNot ?_ | refine KP.w_ifIntNot ?_ | refine KP.w_ifNonNot ?_
  | refine KP.w_forL ?_ | refine KP.w_forT ?_ | refine KP.w_forR1 ?_ | refine KP.w_forET ?_ | refine KP.w_lcL ?_ | refine KP.w_lcT ?_ | refine KP.w_lcR1 ?_ | refine KP.w_lcR2 ?_ | refine KP.w_lcS ?_ | refine KP.w_lcET ?_ | refine KP.w_listRg ?_ | refine KP.w_rg1 ?_ | refine KP.w_bmt ?_ | refine KP.w_callK ?_ | refine KP.w_dNotIn ?_ | refine KP.w_dIn ?_ | refine KP.w_dGet ?_ | refine KP.w_dPut ?_ | refine KP.w_yes ?_
  | refine KP.w_callS ?_ | refine KP.w_xg ?_ | refine KP.w_intI ?_ | refine KP.w_intB ?_ | refine KP.w_abs ?_ | refine KP.w_max2 ?_ | refine KP.w_min2 ?_ | refine KP.w_isiII ?_ | refine KP.w_isiIB ?_ | refine KP.w_isiIT ?_))
local macro_rules | `(tactic| walk_at "kp1") => `(tactic| first
  | walk_at "kpA"
  | ((with_reducible refine' KP.w_var ?kpv ?_); (case kpv => exact rfl))
  | ((with_reducible refine' KP.w_rI ?kpc ?_); (case kpc => walk_at "kp_c"))
  | ((with_reducible refine' KP.w_seqV ?kpc ?_); (case kpc => walk_at "kp_c")))
local macro_rules | `(tactic| walk_at "kp") => `(tactic| repeat walk_at "kp1")
namespace K85
open PySem PySem.Spec PyProof.Rows L2 KP
open PySem.W (Datum Tup DatumOrd)
open C8 (fnScope fnBody fnArgs fnScope_by)
section
variable {P : Program} {w : World} {K : PySem.W.Frag} {mg : Str → Option Value} {base : Heap} {C_Table C_Refused C_DeskError : Addr}
theorem cal__law_draw (T : Txt P K mg C_Table C_Refused C_DeskError) : C8.Cal P w K mg base 1 "_law_draw" spDraw [] := by
  refine mkCal T.d__law_draw sc__law_draw (fun vs H Q E h => ?_) (fun f cdv A outer s H vs Q E hr h => ?_)
  · obtain ⟨a, b, n, rfl, _⟩ := h; rfl
  · obtain ⟨a, b, n, rfl, ⟨cs, st, R⟩, h0, h1, k⟩ := h
    refine ⟨_, (C8.pss_cut (ps_while PassesOwn.never (PW.pt (pw_and (pt_cmpR (KP.op_neXK K rfl hr.units) (pe_ix (KP.ix_listK K rfl) (pv 0) pe_int (fun _ _ => rfl)) (pe_lst pa_nil) (nomark _)) (pw_and1 (pt_cmpR op_eq (pe_ix (KP.ix_listK K rfl) (pe_ix (KP.ix_listK K rfl) (pv 0) pe_int (fun _ _ => rfl)) (pe_un un_neg pe_int) (fun _ _ => rfl)) pe_int (nomark _)))))
 (pss_one (ps_expr (KP.pe_bm0K K rfl PySem.F.plainAttrs_list PySem.F.slot_list_pop PySem.F.type_list_pop mt_pop (pe_ix (KP.ix_listK K rfl) (pv 0) pe_int (fun _ _ => rfl))))))
 (pss_cons (ps_if (pt_cmpR (KP.op_neXK K rfl hr.units) (pe_ix (KP.ix_listK K rfl) (pv 0) pe_int (fun _ _ => rfl)) (pe_lst pa_nil) (nomark _))
 (pss_cons (ps_set (i := 2) sc__law_draw.nd rfl (by first | exact Or.inl rfl | exact Or.inr rfl) (KP.pe_bm0K K rfl PySem.F.plainAttrs_list PySem.F.slot_list_pop PySem.F.type_list_pop mt_pop (pe_ix (KP.ix_listK K rfl) (pv 0) pe_int (fun _ _ => rfl))))
 (pss_cons (ps_expr (KP.pe_bmK K rfl PySem.F.plainAttrs_list PySem.F.slot_list_append PySem.F.type_list_append mt_append (pe_ix (KP.ix_listK K rfl) (pv 0) pe_int (fun _ _ => rfl)) (pa_cons (pe_op op_fdiv (pv 2) (pv 1)) pa_nil)))
 (pss_one (ps_ret (pe_op op_mod (pe_callTy KP.cq_int rfl T.m_int KP.bt_int (pa_cons (pv 2) pa_nil)) (pv 1))))))
 pss_nil)
 (pss_cons (ps_asg (pe_op op_mod (pe_callTy KP.cq_int rfl T.m_int KP.bt_int (pa_cons (pe_op op_add (pe_op op_mul (pe_ix (KP.ix_listK K rfl) (pv 0) pe_int (fun _ _ => rfl)) pe_int) pe_int) pa_nil)) pe_int) (pg_sub (pv 0) pe_int set_list))
 (pss_one (ps_ret (pe_op op_mod (pe_callTy KP.cq_int rfl T.m_int KP.bt_int (pa_cons (pe_op op_fdiv (pe_ix (KP.ix_listK K rfl) (pv 0) pe_int (fun _ _ => rfl)) pe_int) pa_nil)) (pv 1))))))), ?_⟩
    (simp only [n__law_draw, KP.st_cons, KP.st_nilc, KP.st_nil]); (try dsimp only [L2.cxOf, L2.Cx.nox, L2.Cx.wish])
    -- while heap[0] != [] and heap[0][-1] == 0: heap[0].pop()
    refine w_cut (fun σ' H1 => ∃ cs, σ' = [some (.ref a), some (.int n), none] ∧ Kp [a, b] H H1 ∧ RngS H1 a b cs st) ?_ ?_
    · refine w_whileQ (fun m σ H1 => ∃ (cs : List Int), m = cs.length ∧ σ = [some (.ref a), some (.int n), none] ∧ Kp [a, b] H H1 ∧ RngS H1 a b cs st) _ ⟨cs, rfl, rfl, Kp.refl, R⟩ ?_
      rintro m σ H1 Qt ⟨cs, rfl, rfl, e1, R⟩ qT qF
      walk_at "kp"
      refine w_ixL (SqL.of R.ha) (by rfl) ?_
      walk_at "kp"
      intro p hp
      have R1 : RngS (upd H1 p (.lst [])) a b cs st := R.new hp
      have e2 : Kp [a, b] H (upd H1 p (.lst [])) := e1.trans (Kp.new hp)
      refine w_neNil (SqL.of R1.hb) upd_same ?_
      walk_at "kp"
      refine w_itN (fun hne => ?_) (fun he => ?_)
      · obtain ⟨ds, d, rfl⟩ : ∃ ds d, cs = ds ++ [d] := ⟨cs.dropLast, cs.getLast hne, (List.dropLast_concat_getLast hne).symm⟩
        walk_at "kp"
        refine w_ixL (SqL.of R1.ha) (by rfl) ?_
        walk_at "kp"
        refine w_ixL (SqL.of R1.hb) (by rw [List.map_append]; exact atI_last _ _) ?_
        walk_at "kp"
        by_cases hz : d = 0
        · rw [decide_eq_true hz]
          refine qT _ ?_
          walk_at "kp"
          refine w_ixL (SqL.of R1.ha) (by rfl) ?_
          refine w_bmL R1.hb ?_
          refine w_pop R1.hb (y := .int d) (by simp) ?_
          walk_at "kp"
          refine ⟨ds.length, by simp, ds, rfl, rfl, e2.trans (Kp.set R1.hb rfl (by simp)), ?_⟩
          rw [List.map_append, List.map_singleton, List.dropLast_concat]
          exact R1.put (by have := R.len; simp at this; omega)
        · rw [decide_eq_false hz]
          exact qF _ ⟨_, rfl, e2, R1⟩
      · exact qF _ ⟨_, rfl, e2, R1⟩
    · rintro σ' H1 ⟨cs, rfl, e1, R⟩
      walk_at "kp"
      refine w_ixL (SqL.of R.ha) (by rfl) ?_
      walk_at "kp"
      intro p hp
      have R1 : RngS (upd H1 p (.lst [])) a b cs st := R.new hp
      have e2 : Kp [a, b] H (upd H1 p (.lst [])) := e1.trans (Kp.new hp)
      refine w_neNil (SqL.of R1.hb) upd_same ?_
      walk_at "kp"
      refine w_itN (fun hne => ?_) (fun he => ?_)
      · obtain ⟨ds, d, rfl⟩ : ∃ ds d, cs = ds ++ [d] := ⟨cs.dropLast, cs.getLast hne, (List.dropLast_concat_getLast hne).symm⟩
        walk_at "kp"
        refine w_ixL (SqL.of R1.ha) (by rfl) ?_
        refine w_bmL R1.hb ?_
        refine w_pop R1.hb (y := .int d) (by simp) ?_
        walk_at "kp"
        rw [List.map_append, List.map_singleton, List.dropLast_concat]
        have hl : ds.length + 1 ≤ 1000 := by have := R.len; simp at this; omega
        have R2 := R1.put (ds := ds) (by omega)
        refine w_ixL (SqL.of R2.ha) (by rfl) ?_
        refine w_bmL R2.hb ?_
        walk_at "kp"
        refine w_append R2.hb (by rw [List.length_map, sizeLine_eq]; omega) ?_
        walk_at "kp"
        have em : ds.map V.int ++ [V.int (d / n)] = (ds ++ [d / n]).map V.int := by simp
        rw [upd_upd, em]
        exact k _ _ (Int.emod_nonneg _ (by omega)) (Int.emod_lt_of_pos _ h0) (e2.trans (Kp.set R1.hb rfl (by simp))) ⟨_, _, R1.put (by simp; omega)⟩
      · walk_at "kp"
        refine w_ixL (SqL.of R1.ha) (by rfl) ?_
        walk_at "kp"
        refine w_setL R1.ha (by rfl) ?_
        walk_at "kp"
        refine w_ixL (SqL.of upd_same) (by rfl) ?_
        walk_at "kp"
        exact k _ _ (Int.emod_nonneg _ (by omega)) (Int.emod_lt_of_pos _ h0) (e2.trans (Kp.set R1.ha rfl (by simp))) ⟨_, _, R1.stir⟩
theorem cal__law_pick (T : Txt P K mg C_Table C_Refused C_DeskError) : C8.Cal P w K mg base 2 "_law_pick" (spPick K) [] := by
  refine mkCal T.d__law_pick sc__law_pick (fun vs H Q E h => ?_) (fun f cdv A outer s H vs Q E hr h => ?_)
  · obtain ⟨a, b, p, xs, rfl, _⟩ := h; rfl
  · obtain ⟨a, b, p, xs, rfl, R, hp, pa, pb, hne, hl, k⟩ := h
    refine ⟨_, (pss_one (ps_ret (pe_ix (KP.ix_listK K rfl) (pv 1) (C8.pe_c (cal__law_draw T) hr (by decide) rfl (pa_cons (pv 0) (pa_cons (pe_callB (KP.cq_lenK K rfl) rfl T.m_len KP.bt_len (pa_cons (pv 1) pa_nil)) pa_nil))) (fun _ _ => rfl)))), ?_⟩
    (simp only [n__law_pick, KP.st_cons, KP.st_nilc, KP.st_nil]); (try dsimp only [L2.cxOf, L2.Cx.nox, L2.Cx.wish])
    walk_at "kp"
    refine w_lenL hp ?_
    walk_at "kp"
    have h0 : 0 < xs.length := List.length_pos_iff.mpr hne
    refine ⟨a, b, _, rfl, R, by omega, by omega, fun z H1 z0 z1 e1 R1 => ?_⟩
    walk_at "kp"
    have hz : z.toNat < xs.length := by omega
    exact w_ixL (v := xs[z.toNat]) (e1.sqL hp (by simp [pa, pb])) (at_of (j := z.toNat) (by omega) (by simp [hz])) (k z.toNat (xs[z.toNat]) H1 (by simp [hz]) e1 R1)
theorem cal__law_heap (T : Txt P K mg C_Table C_Refused C_DeskError) : C8.Cal P w K mg base 1 "_law_heap" (spHeap K) [] := by
  refine mkCal T.d__law_heap sc__law_heap (fun vs H Q E h => ?_) (fun f cdv A outer s H vs Q E hr h => ?_)
  · obtain ⟨p, ns, rfl, _⟩ := h; rfl
  · obtain ⟨p, ns, rfl, hS, hl, k⟩ := h
    refine ⟨_, (pss_cons (ps_par (i := 1) (j := 2) rfl sc__law_heap.nd rfl rfl (by decide) rfl rfl (pa_cons (pe_lc (own := [("cell", 3)]) rfl sc__law_heap.nd (KP.pi_listK K rfl (pe_slice (KP.sl_listK K rfl) (pv 0) po_none (po_some pe_int)))
 (blkOk_by (N := n__law_heap) (sc := fnScope s__law_heap) (by decide +kernel)) (fun _ _ _ _ _ => (pg_name (i := 3) sc__law_heap.nd rfl (by first | exact Or.inl rfl | exact Or.inr rfl))) (fun _ _ _ _ _ => pts_nil) (fun _ _ _ _ _ => (pe_op op_add (pe_op op_mul pe_int (pe_callB KP.cq_abs rfl T.m_abs KP.bt_abs (pa_cons (pv 3) pa_nil))) (pe_callTy KP.cq_int rfl T.m_int KP.bt_int (pa_cons (pe_cmpR op_lt (pv 3) pe_int (nomark _)) pa_nil))))) (pa_cons pe_int pa_nil)) rfl)
 (C8.pss_cut (ps_for PassesOwn.never rfl (KP.pi_listK K rfl (pv 1)) (pg_name (i := 3) sc__law_heap.nd rfl (by first | exact Or.inl rfl | exact Or.inr rfl))
 (pss_one (ps_set (i := 2) sc__law_heap.nd rfl (by first | exact Or.inl rfl | exact Or.inr rfl) (pe_op op_mod (pe_callTy KP.cq_int rfl T.m_int KP.bt_int (pa_cons (pe_op op_add (pe_op op_add (pe_op op_mul (pv 2) pe_int) (pe_op op_mod (pe_callTy KP.cq_int rfl T.m_int KP.bt_int (pa_cons (pv 3) pa_nil)) pe_int)) pe_int) pa_nil)) pe_int))))
 (pss_one (ps_ret (pe_lst (pa_cons (KP.pe_revLK K rfl (pe_lc (own := [("cell", 3)]) rfl sc__law_heap.nd (KP.pi_listK K rfl (pv 1))
 (blkOk_by (N := n__law_heap) (sc := fnScope s__law_heap) (by decide +kernel)) (fun _ _ _ _ _ => (pg_name (i := 3) sc__law_heap.nd rfl (by first | exact Or.inl rfl | exact Or.inr rfl))) (fun _ _ _ _ _ => (pts_one (pt_cmpR op_ge (pv 3) (pe_op op_pow pe_int pe_int) (nomark _)))) (fun _ _ _ _ _ => (pv 3)))) (pa_cons (pv 2) pa_nil))))))), ?_⟩
    (simp only [n__law_heap, KP.st_cons, KP.st_nilc, KP.st_nil]); (try dsimp only [L2.cxOf, L2.Cx.nox, L2.Cx.wish])
    walk_at "kp"
    refine w_slL hS fun p1 hp1 => ?_
    walk_at "kp"
    rw [cutV_ints]
    refine w_lcLV (SqL.of upd_same) Int [] (fun _ => True) (fun _ _ => True) (by rw [List.length_map]; exact Nat.le_trans (cutI_len _ _ _) (by omega)) (by simp) (by simp) True.intro (fun _ _ _ _ _ => True.intro) True.intro (fun i x acc H1 QE QF hx e1 _ _ hl1 kE kF => ?_) ?_
    · obtain ⟨c, rfl⟩ := int_at hx
      walk_at "kp"
      refine ⟨rfl, ?_⟩
      walk_at "kp"
      by_cases hc : c < 0
      · rw [decide_eq_true hc]
        walk_at "kp"
        exact kE _ _ _ Kp.refl True.intro (is_int _) True.intro
      · rw [decide_eq_false hc]
        walk_at "kp"
        exact kE _ _ _ Kp.refl True.intro (is_int _) True.intro
    · intro D ws ys H1 hD e1 _ _ hlen hall hH1
      have hw := hall.ints
      subst hw
      have hly : ys.length ≤ 60 := by
        refine Nat.le_trans hlen ?_
        rw [List.length_map]
        exact cutI_len60 _
      have eH : Kp [] H H1 := (Kp.new hp1).trans e1
      walk_at "kp"
      refine w_cut (fun σ' H' => ∃ (st : Int) (y3 : Option V), σ' = [some (.ref p), some (.ref D), some (.int st), y3] ∧ H' = H1) ?_ ?_
      · walk_at "kp"
        refine w_lpL (SqL.of hH1) (fun i σ' H' => ∃ (st : Int) (y3 : Option V), σ' = [some (.ref p), some (.ref D), some (.int st), y3] ∧ H' = H1) ⟨_, _, rfl, rfl⟩ (fun i σ' H' _ h => by obtain ⟨_, _, _, rfl⟩ := h; exact SqL.of hH1) (fun i x σ' H' hx h => ?_) (fun σ' H' h => h)
        obtain ⟨st, y3, rfl, rfl⟩ := h
        obtain ⟨c, rfl⟩ := int_at hx
        walk_at "kp"
        exact ⟨_, _, rfl, rfl⟩
      · rintro σ' H' ⟨st, y3, rfl, rfl⟩
        walk_at "kp"
        refine w_lcLV (SqL.of hH1) Int [] (fun _ => True) (fun _ _ => True) (by rw [List.length_map]; omega) (by simp) (by simp) True.intro (fun _ _ _ _ _ => True.intro) True.intro (fun i x acc H2 QE QF hx e2 _ _ hl1 kE kF => ?_) ?_
        · obtain ⟨c, rfl⟩ := int_at hx
          walk_at "kp"
          refine ⟨rfl, ?_⟩
          walk_at "kp"
          refine w_itD (fun _ => ?_) (fun _ => ?_)
          · walk_at "kp"
            exact kE _ _ _ Kp.refl True.intro (is_int _) True.intro
          · exact kF _ Kp.refl True.intro True.intro
        · intro D2 ws2 zs H2 hD2 e2 _ _ hlen2 hall2 hH2
          have hw := hall2.ints
          subst hw
          refine w_revV (SqL.of hH2) fun q hq => ?_
          walk_at "kp"
          intro a ha
          have haq : q ≠ a := ne_of_none upd_same ha
          have e3 : Kp [] H H2 := eH.trans e2
          have hq0 : H q = none := e3.free hq
          have ha0 : H a = none := (e3.trans (Kp.new hq)).free ha
          refine k a q _ ((e3.trans (Kp.new hq)).trans (Kp.new ha)) ⟨zs.reverse, st, upd_same, by rw [upd_ne haq, upd_same, List.map_reverse], haq.symm, by rw [List.length_reverse]; rw [List.length_map] at hlen2; omega⟩ ha0 hq0
end
end K85
namespace K85
open PySem PySem.Spec PyProof.Rows L2 KP
open PySem.W (Datum Tup DatumOrd)
open C8 (fnScope fnBody fnArgs fnScope_by)
section
variable {P : Program} {w : World} {K : PySem.W.Frag} {mg : Str → Option Value} {base : Heap} {C_Table C_Refused C_DeskError : Addr}
theorem cal_is_integer (T : Txt P K mg C_Table C_Refused C_DeskError) : C8.Cal P w K mg base 1 "is_integer" spInt [] := by
  refine mkCal T.d_is_integer sc_is_integer (fun vs H Q E h => ?_) (fun f cdv A outer s H vs Q E hr h => ?_)
  · obtain ⟨i, rfl, _⟩ := h; rfl
  · obtain ⟨i, rfl, k⟩ := h
    refine ⟨_, (pss_one (ps_ret (pe_and (pe_callB (KP.call_isiK' K rfl) rfl T.m_isinstance KP.bt_isinstance (pa_cons (pv 0) (pa_cons (KP.pe_ty rfl T.m_int KP.bt_int) pa_nil))) (pe_one (pe_not (pe_callB (KP.call_isiK' K rfl) rfl T.m_isinstance KP.bt_isinstance (pa_cons (pv 0) (pa_cons (KP.pe_ty rfl T.m_bool KP.bt_bool) pa_nil)))))))), ?_⟩
    (simp only [n_is_integer, KP.st_cons, KP.st_nilc, KP.st_nil]); (try dsimp only [L2.cxOf, L2.Cx.nox, L2.Cx.wish])
    walk_at "kp"
    exact k
theorem cal_is_number (T : Txt P K mg C_Table C_Refused C_DeskError) : C8.Cal P w K mg base 2 "is_number" spNum [] := by
  refine mkCal T.d_is_number sc_is_number (fun vs H Q E h => ?_) (fun f cdv A outer s H vs Q E hr h => ?_)
  · obtain ⟨i, rfl, _⟩ := h; rfl
  · obtain ⟨i, rfl, k⟩ := h
    refine ⟨_, (pss_one (ps_ret (pe_and (C8.pe_c (cal_is_integer T) hr (by decide) rfl (pa_cons (pv 0) pa_nil)) (pe_one (pe_cmpR op_ge (pv 0) pe_int (nomark _)))))), ?_⟩
    (simp only [n_is_number, KP.st_cons, KP.st_nilc, KP.st_nil]); (try dsimp only [L2.cxOf, L2.Cx.nox, L2.Cx.wish])
    walk_at "kp"
    refine ⟨i, rfl, ?_⟩
    walk_at "kp"
    exact k
theorem cal_is_name (T : Txt P K mg C_Table C_Refused C_DeskError) : C8.Cal P w K mg base 1 "is_name" spName [] := by
  refine mkCal T.d_is_name sc_is_name (fun vs H Q E h => ?_) (fun f cdv A outer s H vs Q E hr h => ?_)
  · obtain ⟨i, rfl, _⟩ := h; rfl
  · obtain ⟨z, rfl, ⟨h1, h2, h3⟩, k⟩ := h
    refine ⟨_, (pss_cons (ps_if (PW.pt (pw_or (pt_not (pt_val (pe_callB (KP.call_isiK' K rfl) rfl T.m_isinstance KP.bt_isinstance (pa_cons (pv 0) (pa_cons (KP.pe_ty rfl T.m_str KP.bt_str) pa_nil))))) (pw_or1 (pt_not (pt_chain op_le op_le pe_int (pe_callB KP.cq_lenS rfl T.m_len KP.bt_len (pa_cons (pv 0) pa_nil)) (C8.pe_gc rfl T.g_LONGEST_NAME))))))
 (pss_one (ps_ret pe_bl))
 pss_nil)
 (pss_one (ps_ret (pe_callB (KP.cr_allK K rfl rfl) rfl T.m_all KP.bt_all (pa_cons (pe_lc (own := [("sign", 1)]) rfl sc_is_name.nd (pi_str (pv 0))
 (blkOk_by (N := n_is_name) (sc := fnScope s_is_name) (by decide +kernel)) (fun _ _ _ _ _ => (pg_name (i := 1) sc_is_name.nd rfl (by first | exact Or.inl rfl | exact Or.inr rfl))) (fun _ _ _ _ _ => pts_nil) (fun _ _ _ _ _ => (pe_cmpR KP.op_inS' (pv 1) (C8.pe_gc rfl T.g_LETTERS) rfl))) pa_nil))))), ?_⟩
    (simp only [n_is_name, KP.st_cons, KP.st_nilc, KP.st_nil]); (try dsimp only [L2.cxOf, L2.Cx.nox, L2.Cx.wish])
    walk_at "kp"
    refine w_isiSS ?_
    walk_at "kp"
    refine w_lenS (by omega) ?_
    walk_at "kp"
    rw [decide_eq_true (by omega)]
    walk_at "kp"
    rw [decide_eq_true (by omega)]
    walk_at "kp"
    have hz : z.cps.size ≤ 8 := h2
    refine w_lcSV K Bool [] (fun _ => True) (fun i acc => ∀ b ∈ acc, b = true) (by omega) (by simp) True.intro (fun _ _ _ _ _ => True.intro) (by simp) (fun i c acc H1 QE QF hc e1 _ hj hl1 kE kF => ?_) ?_
    · walk_at "kp"
      refine ⟨rfl, ?_⟩
      walk_at "kp"
      refine w_inS ?_
      have hcm : c ∈ z.cps.toList := List.mem_of_getElem? (i := i) (by rw [Array.getElem?_toList]; exact hc)
      refine kE _ true _ Kp.refl True.intro ?_ fun b hb => ?_
      · have := h3 c hcm
        rw [show decide (c ∈ (Str.ofString "abcdefghijklmnopqrstuvwxyz").cps.toList) = true from decide_eq_true this]
        exact is_bl _
      · rcases List.mem_append.mp hb with hb | hb
        · exact hj b hb
        · simpa using hb
    · intro D ws ys H1 hD e1 _ hj hlen hall hH1
      have hw := hall.bls
      subst hw
      walk_at "kp"
      refine w_all (SqL.of hH1) ?_
      rw [show ys.all id = true from List.all_eq_true.mpr fun b hb => hj b hb]
      exact k _ e1
theorem cal_are_numbers (T : Txt P K mg C_Table C_Refused C_DeskError) : C8.Cal P w K mg base 3 "are_numbers" (spNums K) [] := by
  refine mkCal T.d_are_numbers sc_are_numbers (fun vs H Q E h => ?_) (fun f cdv A outer s H vs Q E hr h => ?_)
  · obtain ⟨v, xs, rfl, _⟩ := h; rfl
  · obtain ⟨v, xs, rfl, hv, hl, k⟩ := h
    refine ⟨_, (pss_one (ps_ret (pe_and (pe_callB (KP.call_isiK' K rfl) rfl T.m_isinstance KP.bt_isinstance (pa_cons (pv 0) (pa_cons (KP.pe_ty rfl T.m_tuple KP.bt_tuple) pa_nil))) (pe_one (pe_callB (KP.cr_allK K rfl rfl) rfl T.m_all KP.bt_all (pa_cons (pe_lc (own := [("item", 1)]) rfl sc_are_numbers.nd (KP.pi_tupK K rfl (pv 0))
 (blkOk_by (N := n_are_numbers) (sc := fnScope s_are_numbers) (by decide +kernel)) (fun _ _ _ _ _ => (pg_name (i := 1) sc_are_numbers.nd rfl (by first | exact Or.inl rfl | exact Or.inr rfl))) (fun _ _ _ _ _ => pts_nil) (fun _ _ _ _ _ => (C8.pe_c (cal_is_number T) hr (by decide) rfl (pa_cons (pv 1) pa_nil)))) pa_nil)))))), ?_⟩
    (simp only [n_are_numbers, KP.st_cons, KP.st_nilc, KP.st_nil]); (try dsimp only [L2.cxOf, L2.Cx.nox, L2.Cx.wish])
    obtain ⟨p, ps, rfl, hp, hpa⟩ := hv.tupm
    have e1 := hpa.ints
    subst e1
    walk_at "kp"
    refine w_isiTT hp ?_
    walk_at "kp"
    refine w_lcTV hp Bool [] (fun _ => True) (fun i acc => acc = (xs.take i).map fun x => decide (0 ≤ x)) (by rw [List.length_map]; omega) (by simp) True.intro (fun _ _ _ _ _ => True.intro) (by simp) (fun i x acc H1 QE QF hx e1 _ hj hl1 kE kF => ?_) ?_
    · obtain ⟨z, rfl, hz⟩ := int_at' hx
      walk_at "kp"
      refine ⟨rfl, ?_⟩
      walk_at "kp"
      refine ⟨z, rfl, ?_⟩
      refine kE _ _ _ Kp.refl True.intro (is_bl _) ?_
      rw [hj, List.take_add_one, hz, List.map_append]
      rfl
    · intro D ws ys H1 hD e1 _ hj hlen hall hH1
      have hw := hall.bls
      subst hw
      walk_at "kp"
      refine w_all (SqL.of hH1) ?_
      rw [hj, List.length_map, List.take_length, List.all_map]
      exact k _ e1
theorem cal_is_ascending (T : Txt P K mg C_Table C_Refused C_DeskError) : C8.Cal P w K mg base 1 "is_ascending" (spAsc K) [] := by
  refine mkCal T.d_is_ascending sc_is_ascending (fun vs H Q E h => ?_) (fun f cdv A outer s H vs Q E hr h => ?_)
  · obtain ⟨α, i1, i2, i3, v, xs, rfl, _⟩ := h; rfl
  · obtain ⟨α, i1, i2, i3, v, xs, rfl, hv, hd, hl, k⟩ := h
    refine ⟨_, (pss_one (ps_ret (pe_callB (KP.cr_allK K rfl rfl) rfl T.m_all KP.bt_all (pa_cons (pe_lc (own := [("at", 1)]) rfl sc_is_ascending.nd (pi_range1 rfl T.m_range (pa_cons (pe_op op_sub (pe_callB (KP.cq_lenK K rfl) rfl T.m_len KP.bt_len (pa_cons (pv 0) pa_nil)) pe_int) pa_nil))
 (blkOk_by (N := n_is_ascending) (sc := fnScope s_is_ascending) (by decide +kernel)) (fun _ _ _ _ _ => (pg_name (i := 1) sc_is_ascending.nd rfl (by first | exact Or.inl rfl | exact Or.inr rfl))) (fun _ _ _ _ _ => pts_nil) (fun _ _ _ _ _ => (pe_cmpR (KP.op_ltDK K rfl hr.units) (pe_ix (KP.ix_tupK K rfl) (pv 0) (pv 1) (fun _ _ => rfl)) (pe_ix (KP.ix_tupK K rfl) (pv 0) (pe_op op_add (pv 1) pe_int) (fun _ _ => rfl)) (nomark _)))) pa_nil)))), ?_⟩
    (simp only [n_is_ascending, KP.st_cons, KP.st_nilc, KP.st_nil]); (try dsimp only [L2.cxOf, L2.Cx.nox, L2.Cx.wish])
    walk_at "kp"
    refine w_lenD hv ?_
    obtain ⟨p, ps, rfl, hp, hpa⟩ := hv.tupm
    walk_at "kp"
    refine w_lcR1Z K (xs.length - 1) (by omega) (by omega) Bool [] (fun _ => True) (fun i acc => acc.all id = (List.range i).all (ascAt xs)) (by omega) (by simp) True.intro (fun _ _ _ _ _ => True.intro) (by simp) (fun i acc H2 QE QF hi e2 _ hj hl1 kE kF => ?_) ?_
    · have ga : xs[i]? = some (xs[i]'(by omega)) := by simp
      have gb : xs[i + 1]? = some (xs[i + 1]'(by omega)) := by simp
      obtain ⟨a, ha, ia⟩ := hpa.get' ga
      obtain ⟨b, hb, ib⟩ := hpa.get' gb
      walk_at "kp"
      refine ⟨rfl, ?_⟩
      walk_at "kp"
      refine w_ixT (e2.sqT hp) (atI_nat ha) ?_
      walk_at "kp"
      refine w_ixT (e2.sqT hp) (atI_nat (j := i + 1) hb) ?_
      refine ⟨α, i1, i2, _, _, ia.kp e2, ib.kp e2, hd, ?_⟩
      refine kE _ _ _ Kp.refl True.intro (is_bl _) ?_
      rw [range_all_succ, List.all_append, hj]
      unfold ascAt
      rw [ga, gb]
      simp
    · intro D ws ys H1 hD e1 _ hj hlen hall hH1
      have hw := hall.bls
      subst hw
      walk_at "kp"
      refine w_all (SqL.of hH1) ?_
      rw [hj]
      exact k _ e1
theorem cal_is_listing (T : Txt P K mg C_Table C_Refused C_DeskError) : C8.Cal P w K mg base 4 "is_listing" (spListing K) [] := by
  refine mkCal T.d_is_listing sc_is_listing (fun vs H Q E h => ?_) (fun f cdv A outer s H vs Q E hr h => ?_)
  · obtain ⟨v, xs, b, rfl, _⟩ := h; rfl
  · obtain ⟨v, xs, b, rfl, hv, hl, k⟩ := h
    refine ⟨_, (pss_one (ps_ret (pe_and (C8.pe_c (cal_are_numbers T) hr (by decide) rfl (pa_cons (pv 0) pa_nil)) (pe_and (pe_callB (KP.cr_allK K rfl rfl) rfl T.m_all KP.bt_all (pa_cons (pe_lc (own := [("item", 2)]) rfl sc_is_listing.nd (KP.pi_tupK K rfl (pv 0))
 (blkOk_by (N := n_is_listing) (sc := fnScope s_is_listing) (by decide +kernel)) (fun _ _ _ _ _ => (pg_name (i := 2) sc_is_listing.nd rfl (by first | exact Or.inl rfl | exact Or.inr rfl))) (fun _ _ _ _ _ => pts_nil) (fun _ _ _ _ _ => (pe_cmpR op_lt (pv 2) (pv 1) (nomark _)))) pa_nil)) (pe_one (C8.pe_c (cal_is_ascending T) hr (by decide) rfl (pa_cons (pv 0) pa_nil))))))), ?_⟩
    (simp only [n_is_listing, KP.st_cons, KP.st_nilc, KP.st_nil]); (try dsimp only [L2.cxOf, L2.Cx.nox, L2.Cx.wish])
    obtain ⟨p, ps, rfl, hp, hpa⟩ := hv.tupm
    have e1 := hpa.ints
    subst e1
    walk_at "kp"
    refine ⟨_, xs, rfl, hv, hl, fun H1 e1 => ?_⟩
    walk_at "kp"
    unfold listB at k
    refine w_itB (fun hb => ?_) (fun hb => ?_)
    · rw [hb] at k
      walk_at "kp"
      refine w_lcTV (e1.sqT hp) Bool [] (fun _ => True) (fun i acc => acc = (xs.take i).map fun x => decide (x < b)) (by rw [List.length_map]; omega) (by simp) True.intro (fun _ _ _ _ _ => True.intro) (by simp) (fun i x acc H2 QE QF hx e2 _ hj hl1 kE kF => ?_) ?_
      · obtain ⟨z, rfl, hz⟩ := int_at' hx
        walk_at "kp"
        refine ⟨rfl, ?_⟩
        walk_at "kp"
        refine kE _ _ _ Kp.refl True.intro (is_bl _) ?_
        rw [hj, List.take_add_one, hz, List.map_append]
        rfl
      · intro D ws ys H2 hD e2 _ hj hlen hall hH2
        have hw := hall.bls
        subst hw
        walk_at "kp"
        refine w_all (SqL.of hH2) ?_
        have hja : ys.all id = xs.all fun x => decide (x < b) := by rw [hj, List.length_map, List.take_length, List.all_map]; rfl
        rw [hja]
        walk_at "kp"
        refine w_itB (fun hb2 => ?_) (fun hb2 => ?_)
        · rw [hb2] at k
          walk_at "kp"
          refine ⟨Int, _, _, inferInstance, _, xs, rfl, (hv.kp e1).kp e2, by decide, hl, fun H3 e3 => ?_⟩
          exact k _ ((e1.trans e2).trans e3)
        · rw [hb2] at k
          exact k _ (e1.trans e2)
    · rw [hb] at k
      exact k _ e1
theorem cal_are_kinds (T : Txt P K mg C_Table C_Refused C_DeskError) : C8.Cal P w K mg base 2 "are_kinds" (spKinds K) [] := by
  refine mkCal T.d_are_kinds sc_are_kinds (fun vs H Q E h => ?_) (fun f cdv A outer s H vs Q E hr h => ?_)
  · obtain ⟨v, xs, rfl, _⟩ := h; rfl
  · obtain ⟨v, xs, rfl, hv, h1, h2, h3, h4, k⟩ := h
    refine ⟨_, (pss_cons (ps_if (PW.pt (pw_or (pt_not (pt_val (pe_callB (KP.call_isiK' K rfl) rfl T.m_isinstance KP.bt_isinstance (pa_cons (pv 0) (pa_cons (KP.pe_ty rfl T.m_tuple KP.bt_tuple) pa_nil))))) (pw_or1 (pt_not (pt_chain op_le op_le pe_int (pe_callB (KP.cq_lenK K rfl) rfl T.m_len KP.bt_len (pa_cons (pv 0) pa_nil)) (C8.pe_gc rfl T.g_MOST_KINDS))))))
 (pss_one (ps_ret pe_bl))
 pss_nil)
 (pss_one (ps_ret (pe_and (pe_callB (KP.cr_allK K rfl rfl) rfl T.m_all KP.bt_all (pa_cons (pe_lc (own := [("name", 1)]) rfl sc_are_kinds.nd (KP.pi_tupK K rfl (pv 0))
 (blkOk_by (N := n_are_kinds) (sc := fnScope s_are_kinds) (by decide +kernel)) (fun _ _ _ _ _ => (pg_name (i := 1) sc_are_kinds.nd rfl (by first | exact Or.inl rfl | exact Or.inr rfl))) (fun _ _ _ _ _ => pts_nil) (fun _ _ _ _ _ => (C8.pe_c (cal_is_name T) hr (by decide) rfl (pa_cons (pv 1) pa_nil)))) pa_nil)) (pe_one (C8.pe_c (cal_is_ascending T) hr (by decide) rfl (pa_cons (pv 0) pa_nil))))))), ?_⟩
    (simp only [n_are_kinds, KP.st_cons, KP.st_nilc, KP.st_nil]); (try dsimp only [L2.cxOf, L2.Cx.nox, L2.Cx.wish])
    obtain ⟨p, ps, rfl, hp, hpa⟩ := hv.tupm
    have lps := hpa.length
    walk_at "kp"
    refine w_isiTT hp ?_
    walk_at "kp"
    refine w_lenD hv ?_
    walk_at "kp"
    rw [decide_eq_true (by omega)]
    walk_at "kp"
    rw [decide_eq_true (by omega)]
    walk_at "kp"
    refine w_lcTV hp Bool [] (fun _ => True) (fun i acc => ∀ b ∈ acc, b = true) (by omega) (by simp) True.intro (fun _ _ _ _ _ => True.intro) (by simp) (fun i x acc H1 QE QF hx e1 _ hj hl1 kE kF => ?_) ?_
    · obtain ⟨s, hs, is⟩ := hpa.get hx
      have := is.str
      subst this
      walk_at "kp"
      refine ⟨rfl, ?_⟩
      walk_at "kp"
      refine ⟨s, rfl, h3 s (List.mem_of_getElem? hs), fun H2 e2 => ?_⟩
      refine kE _ true _ e2 True.intro (is_bl _) fun b hb => ?_
      rcases List.mem_append.mp hb with hb | hb
      · exact hj b hb
      · simpa using hb
    · intro D ws ys H1 hD e1 _ hj hlen hall hH1
      have hw := hall.bls
      subst hw
      walk_at "kp"
      refine w_all (SqL.of hH1) ?_
      rw [show ys.all id = true from List.all_eq_true.mpr fun b hb => hj b hb]
      walk_at "kp"
      refine ⟨Str, _, _, inferInstance, _, xs, rfl, hv.kp e1, by decide, by omega, fun H2 e2 => ?_⟩
      rw [h4]
      exact k _ (e1.trans e2)
theorem cal_is_type (T : Txt P K mg C_Table C_Refused C_DeskError) : C8.Cal P w K mg base 5 "is_type" (spType K) [] := by
  refine mkCal T.d_is_type sc_is_type (fun vs H Q E h => ?_) (fun f cdv A outer s H vs Q E hr h => ?_)
  · obtain ⟨vk, v, l, kn, p, rfl, _⟩ := h; rfl
  · obtain ⟨vk, v, l, kn, ⟨n, t⟩, rfl, hk, hp, h1, h2, h3, h4, k⟩ := h
    refine ⟨_, (pss_cons (ps_if (PW.pt (pw_or (pt_not (pt_val (pe_callB (KP.call_isiK' K rfl) rfl T.m_isinstance KP.bt_isinstance (pa_cons (pv 1) (pa_cons (KP.pe_ty rfl T.m_tuple KP.bt_tuple) pa_nil))))) (pw_or (pt_cmpR op_ne (pe_callB (KP.cq_lenK K rfl) rfl T.m_len KP.bt_len (pa_cons (pv 1) pa_nil)) pe_int (nomark _)) (pw_or1 (pt_not (pt_val (C8.pe_c (cal_is_name T) hr (by decide) rfl (pa_cons (pe_ix (KP.ix_tupK K rfl) (pv 1) pe_int (fun _ _ => rfl)) pa_nil))))))))
 (pss_one (ps_ret pe_bl))
 pss_nil)
 (pss_one (ps_ret (pe_and (pe_or (pe_cmp (pc_isN (pv 2))) (pe_one (pe_cmpR KP.op_ltA (pv 2) (pe_ix (KP.ix_tupK K rfl) (pv 1) pe_int (fun _ _ => rfl)) (nomark _)))) (pe_one (C8.pe_c (cal_is_listing T) hr (by decide) rfl (pa_cons (pe_ix (KP.ix_tupK K rfl) (pv 1) pe_int (fun _ _ => rfl)) (pa_cons (pe_callB (KP.cq_lenK K rfl) rfl T.m_len KP.bt_len (pa_cons (pv 0) pa_nil)) pa_nil)))))))), ?_⟩
    (simp only [n_is_type, KP.st_cons, KP.st_nilc, KP.st_nil]); (try dsimp only [L2.cxOf, L2.Cx.nox, L2.Cx.wish])
    obtain ⟨p, u, ww, rfl, hp, iu, iw⟩ := hp.pair
    have := iu.str
    subst this
    walk_at "kp"
    refine w_isiTT hp ?_
    walk_at "kp"
    refine w_lenT hp ?_
    walk_at "kp"
    rw [decide_eq_true (by rfl)]
    walk_at "kp"
    refine w_ixT hp (by rfl) ?_
    walk_at "kp"
    refine ⟨n, rfl, h2, fun H1 e1 => ?_⟩
    walk_at "kp"
    have hlen : ∀ xs : List Int, listB xs (kn.length : Nat) = true → xs.length ≤ 100000 := fun xs hx => by
      have h := (listB_iff.mp hx)
      have : ∀ (l : List Int) (b : Int), (∀ x ∈ l, b ≤ x ∧ x < (kn.length : Nat)) → l.Pairwise (· < ·) → (l.length : Int) ≤ max ((kn.length : Nat) - b) 0 := fun l => by
        induction l with
        | nil => intro b _ _; simp; omega
        | cons y ys ih =>
          intro b h1 h2
          have hy := h1 y (List.mem_cons_self ..)
          have := ih (y + 1) (fun x hx => ⟨by have := (List.pairwise_cons.mp h2).1 x hx; omega, (h1 x (List.mem_cons_of_mem _ hx)).2⟩) (List.pairwise_cons.mp h2).2
          rw [List.length_cons]
          omega
      have := this xs 0 h.1 h.2
      omega
    rcases h4 with rfl | ⟨z, rfl, hz⟩
    · walk_at "kp"
      refine w_ixT (e1.sqT hp) (by rfl) ?_
      walk_at "kp"
      refine w_lenD (hk.kp e1) ?_
      walk_at "kp"
      refine ⟨_, t.items, _, rfl, iw.kp e1, hlen _ h3, fun H2 e2 => ?_⟩
      rw [h3]
      exact k _ (e1.trans e2)
    · walk_at "kp"
      refine w_itF ?_
      walk_at "kp"
      refine w_ixT (e1.sqT hp) (by rfl) ?_
      refine w_ltS ?_
      rw [show decide (z.cps.toList < n.cps.toList) = true from hz]
      walk_at "kp"
      refine w_ixT (e1.sqT hp) (by rfl) ?_
      walk_at "kp"
      refine w_lenD (hk.kp e1) ?_
      walk_at "kp"
      refine ⟨_, t.items, _, rfl, iw.kp e1, hlen _ h3, fun H2 e2 => ?_⟩
      rw [h3]
      exact k _ (e1.trans e2)
end
end K85
namespace K85
open PySem PySem.Spec PyProof.Rows L2 KP
open PySem.W (Datum Tup DatumOrd)
open C8 (fnScope fnBody fnArgs fnScope_by)
section
variable {P : Program} {w : World} {K : PySem.W.Frag} {mg : Str → Option Value} {base : Heap} {C_Table C_Refused C_DeskError : Addr}
theorem caa_is_integer (T : Txt P K mg C_Table C_Refused C_DeskError) : C8.Cal P w K mg base 1 "is_integer" (spIntA K) [] := by
  refine mkCal T.d_is_integer sc_is_integer (fun vs H Q E h => ?_) (fun f cdv A outer s H vs Q E hr h => ?_)
  · obtain ⟨v, rfl, _⟩ := h; rfl
  · obtain ⟨v, rfl, h⟩ := h
    refine ⟨_, (pss_one (ps_ret (pe_and (pe_callB (KP.call_isiK' K rfl) rfl T.m_isinstance KP.bt_isinstance (pa_cons (pv 0) (pa_cons (KP.pe_ty rfl T.m_int KP.bt_int) pa_nil))) (pe_one (pe_not (pe_callB (KP.call_isiK' K rfl) rfl T.m_isinstance KP.bt_isinstance (pa_cons (pv 0) (pa_cons (KP.pe_ty rfl T.m_bool KP.bt_bool) pa_nil)))))))), ?_⟩
    (simp only [n_is_integer, KP.st_cons, KP.st_nilc, KP.st_nil]); (try dsimp only [L2.cxOf, L2.Cx.nox, L2.Cx.wish])
    walk_at "kp"
    rcases h with ⟨ho, q⟩ | ⟨i, rfl, q⟩
    · refine w_isiOI ho fun b hb => ?_
      walk_at "kp"
      cases b with
      | true =>
        obtain ⟨c, rfl⟩ := hb rfl
        walk_at "kp"
        refine w_isiBB ?_
        walk_at "kp"
        exact q
      | false =>
        walk_at "kp"
        exact q
    · walk_at "kp"
      exact q
theorem caa_is_number (T : Txt P K mg C_Table C_Refused C_DeskError) : C8.Cal P w K mg base 2 "is_number" (spNumX K) [] := by
  refine mkCal T.d_is_number sc_is_number (fun vs H Q E h => ?_) (fun f cdv A outer s H vs Q E hr h => ?_)
  · obtain ⟨v, rfl, _⟩ := h; rfl
  · obtain ⟨v, rfl, h⟩ := h
    refine ⟨_, (pss_one (ps_ret (pe_and (C8.pe_c (caa_is_integer T) hr (by decide) rfl (pa_cons (pv 0) pa_nil)) (pe_one (pe_cmpR op_ge (pv 0) pe_int (nomark _)))))), ?_⟩
    (simp only [n_is_number, KP.st_cons, KP.st_nilc, KP.st_nil]); (try dsimp only [L2.cxOf, L2.Cx.nox, L2.Cx.wish])
    walk_at "kp"
    rcases h with ⟨ho, q⟩ | ⟨i, rfl, q⟩
    · refine ⟨v, rfl, .inl ⟨ho, ?_⟩⟩
      walk_at "kp"
      exact q
    · refine ⟨_, rfl, .inr ⟨i, rfl, ?_⟩⟩
      walk_at "kp"
      exact q
end
end K85
namespace K85
open PySem PySem.Spec PyProof.Rows L2 KP
open PySem.W (Datum Tup DatumOrd)
open C8 (fnScope fnBody fnArgs fnScope_by)
section
variable {P : Program} {w : World} {K : PySem.W.Frag} {mg : Str → Option Value} {base : Heap} {C_Table C_Refused C_DeskError : Addr}
theorem mak_Table (T : Txt P K mg C_Table C_Refused C_DeskError) : C8.Mak P w K mg base 6 "Table" C_Table (spTable K C_Table) [] := by
  refine mkMak T.k_Table sc_Table___init__ (fun vs H Q E h => ?_) (fun f cdv A outer s H vs Q E hr h => ?_)
  · obtain ⟨t, dx, vk, vt, kn, types, rfl, _⟩ := h; rfl
  · obtain ⟨t, dx, vk, vt, kn, types, rfl, ht, hk, hv, ok, k⟩ := h
    refine ⟨_, (pss_cons (ps_if (pt_not (pt_val (C8.pe_c (cal_are_kinds T) hr (by decide) rfl (pa_cons (pv 1) pa_nil))))
 (pss_one ps_never)
 pss_nil)
 (pss_cons (ps_if (PW.pt (pw_or (pt_not (pt_val (pe_callB (KP.call_isiK' K rfl) rfl T.m_isinstance KP.bt_isinstance (pa_cons (pv 2) (pa_cons (KP.pe_ty rfl T.m_tuple KP.bt_tuple) pa_nil))))) (pw_or1 (pt_cmpR op_gt (pe_callB (KP.cq_lenK K rfl) rfl T.m_len KP.bt_len (pa_cons (pv 2) pa_nil)) (C8.pe_gc rfl T.g_MOST_TYPES) (nomark _)))))
 (pss_one ps_never)
 pss_nil)
 (pss_cons (ps_set (i := 3) sc_Table___init__.nd rfl (by first | exact Or.inl rfl | exact Or.inr rfl) pe_non)
 (C8.pss_cut (ps_for PassesOwn.never rfl (KP.pi_enumTK K rfl rfl T.m_enumerate (pa_cons (pv 2) pa_nil)) (KP.pg_tupK (n := 2) K rfl rfl (pgs_cons (pg_name (i := 4) sc_Table___init__.nd rfl (by first | exact Or.inl rfl | exact Or.inr rfl)) (pgs_cons (pg_name (i := 5) sc_Table___init__.nd rfl (by first | exact Or.inl rfl | exact Or.inr rfl)) pgs_nil)))
 (pss_cons (ps_if (pt_not (pt_val (C8.pe_c (cal_is_type T) hr (by decide) rfl (pa_cons (pv 1) (pa_cons (pv 5) (pa_cons (pv 3) pa_nil))))))
 (pss_one ps_never)
 pss_nil)
 (pss_one (ps_set (i := 3) sc_Table___init__.nd rfl (by first | exact Or.inl rfl | exact Or.inr rfl) (pe_ix (KP.ix_tupK K rfl) (pv 5) pe_int (fun _ _ => rfl))))))
 (pss_cons (KP.ps_fldK K rfl (pv 0) (pv 1) rfl)
 (pss_one (KP.ps_fldK K rfl (pv 0) (pv 2) rfl))))))), ?_⟩
    (simp only [n_Table___init__, KP.st_cons, KP.st_nilc, KP.st_nil]); (try dsimp only [L2.cxOf, L2.Cx.nox, L2.Cx.wish])
    obtain ⟨p, ps, rfl, hp, hpa⟩ := hv.tupm
    have lps := hpa.length
    have ok2 := ok.t2
    walk_at "kp"
    refine ⟨_, kn, rfl, hk, ok.k1, ok.k2, ok.kok, ok.ka, fun H1 e1 => ?_⟩
    walk_at "kp"
    refine w_isiTT (e1.sqT hp) ?_
    walk_at "kp"
    refine w_lenT (e1.sqT hp) ?_
    walk_at "kp"
    rw [decide_eq_false (by omega)]
    walk_at "kp"
    refine w_cut (fun σ' H' => ∃ y3 y4 y5, σ' = [some (.ref t), some vk, some (.ref p), y3, y4, y5] ∧ Kp [] H H') ?_ ?_
    · walk_at "kp"
      refine w_lpET (e1.sqT hp) (fun i σ' H' => ∃ l y4 y5, σ' = [some (.ref t), some vk, some (.ref p), some l, y4, y5] ∧ Kp [] H H' ∧ ((i = 0 ∧ l = .non) ∨ ∃ j q, i = j + 1 ∧ types[j]? = some q ∧ l = .str q.1)) ⟨_, _, _, rfl, e1, .inl ⟨rfl, rfl⟩⟩ (fun i σ' H' _ h => by obtain ⟨_, _, _, _, e, _⟩ := h; exact e.sqT hp) (fun i x σ' H' T' hx h hT => ?_) (fun σ' H' h => ?_)
      · obtain ⟨l, y4, y5, rfl, e2, hl⟩ := h
        obtain ⟨q, hq, iq⟩ := hpa.get hx
        have e3 : Kp [] H (upd H' T' (.tup [.int (i : Nat), x])) := e2.trans (Kp.new hT)
        refine w_gTup (SqT.of upd_same) rfl ?_
        walk_at "kp"
        have hqm : q ∈ types := List.mem_of_getElem? hq
        refine ⟨vk, x, l, kn, q, rfl, hk.kp e3, iq.kp e3, ok.k2, ok.tn q hqm, ok.tl q hqm, ?_, fun H4 e4 => ?_⟩
        · rcases hl with ⟨_, h⟩ | ⟨j, r, rfl, hr, h⟩
          · exact .inl h
          · refine .inr ⟨r.1, h, ?_⟩
            have := ok.ta
            unfold ascD at this
            have := List.all_eq_true.mp this j (List.mem_range.mpr (by
              have := (List.getElem?_eq_some_iff.mp hq).1
              rw [List.length_map]; omega))
            unfold ascAt at this
            rw [List.getElem?_map, List.getElem?_map, hr, hq] at this
            exact this
        · walk_at "kp"
          obtain ⟨z, u, ww, rfl, hz, iu, _⟩ := (iq.kp (e3.trans e4)).pair
          have := iu.str
          subst this
          refine w_ixT hz (by rfl) ?_
          · walk_at "kp"
            exact ⟨_, _, _, rfl, e3.trans e4, .inr ⟨i, q, rfl, hq, rfl⟩⟩
      · obtain ⟨l, y4, y5, rfl, e2, hl⟩ := h
        exact ⟨_, _, _, rfl, e2⟩
    · rintro σ' H2 ⟨y3, y4, y5, rfl, e2⟩
      walk_at "kp"
      have ht2 : H2 t = some (.ins C_Table dx []) := e2.keep _ _ ht (by simp)
      refine w_fldS ht2 T.cl_Table T.na_Table_kinds (by decide) ?_
      rw [tf1]
      have e3 : Kp [t] H2 (upd H2 t (.ins C_Table dx [("kinds", vk)])) := Kp.set ht2 rfl (by simp)
      walk_at "kp"
      refine w_fldS upd_same T.cl_Table T.na_Table_types (by simp) ?_
      rw [tf2, upd_upd]
      have e4 : Kp [t] H (upd H2 t (.ins C_Table dx (tf vk (.ref p)))) := e2.wide.trans (Kp.set ht2 rfl (by simp))
      walk_at "kp"
      exact k _ ⟨⟨dx, vk, .ref p, upd_same, hk.kp e4, hv.kp e4⟩, ok⟩ e4
end
end K85
namespace K85
open PySem PySem.Spec PyProof.Rows L2 KP
open PySem.W (Datum Tup DatumOrd)
open C8 (fnScope fnBody fnArgs fnScope_by)
section
variable {P : Program} {w : World} {K : PySem.W.Frag} {mg : Str → Option Value} {base : Heap} {C_Table C_Refused C_DeskError : Addr}
theorem cal__law_names (T : Txt P K mg C_Table C_Refused C_DeskError) : C8.Cal P w K mg base 3 "_law_names" (spNames K) [] := by
  refine mkCal T.d__law_names sc__law_names (fun vs H Q E h => ?_) (fun f cdv A outer s H vs Q E hr h => ?_)
  · obtain ⟨a, b, n, rfl, _⟩ := h; rfl
  · obtain ⟨a, b, n, rfl, R, hn, k⟩ := h
    refine ⟨_, (pss_cons (ps_set (i := 2) sc__law_names.nd rfl (by first | exact Or.inl rfl | exact Or.inr rfl) (pe_lst pa_nil))
 (C8.pss_cut (ps_for PassesOwn.never rfl (pi_range1 rfl T.m_range (pa_cons (pv 1) pa_nil)) (pg_name (i := 3) sc__law_names.nd rfl (by first | exact Or.inl rfl | exact Or.inr rfl))
 (pss_cons (ps_set (i := 4) sc__law_names.nd rfl (by first | exact Or.inl rfl | exact Or.inr rfl) pe_str)
 (C8.pss_cut (ps_for PassesOwn.never rfl (pi_range1 rfl T.m_range (pa_cons (C8.pe_c (cal__law_pick T) hr (by decide) rfl (pa_cons (pv 0) (pa_cons (pe_lst (pa_cons pe_int (pa_cons pe_int (pa_cons pe_int (pa_cons pe_int (pa_cons pe_int pa_nil)))))) pa_nil))) pa_nil)) (pg_name (i := 5) sc__law_names.nd rfl (by first | exact Or.inl rfl | exact Or.inr rfl))
 (pss_one (ps_set (i := 4) sc__law_names.nd rfl (by first | exact Or.inl rfl | exact Or.inr rfl) (pe_op KP.op_catS (pv 4) (pe_ix KP.ix_strS pe_str (C8.pe_c (cal__law_draw T) hr (by decide) rfl (pa_cons (pv 0) (pa_cons pe_int pa_nil))) (fun _ _ => rfl))))))
 (pss_one (ps_expr (KP.pe_bmK K rfl PySem.F.plainAttrs_list PySem.F.slot_list_append PySem.F.type_list_append mt_append (pv 2) (pa_cons (pe_op KP.op_catS (pv 4) (pe_ix KP.ix_strS pe_str (pv 3) (fun _ _ => rfl))) pa_nil)))))))
 (pss_one (ps_ret (pe_callB (KP.cr_sortedSK K rfl) rfl T.m_sorted KP.bt_sorted (pa_cons (pv 2) pa_nil)))))), ?_⟩
    (simp only [n__law_names, KP.st_cons, KP.st_nilc, KP.st_nil]); (try dsimp only [L2.cxOf, L2.Cx.nox, L2.Cx.wish])
    walk_at "kp"
    intro F hF
    have e1 : Kp [a, b] H (upd H F (.lst [])) := Kp.new hF
    have nFa : F ≠ a := ne_free R.da hF
    have nFb : F ≠ b := ne_free R.db hF
    walk_at "kp"
    refine w_cut (fun σ' H' => ∃ (y3 y4 y5 : Option V) (ys : List Str), σ' = [some (.ref a), some (.int n), some (.ref F), y3, y4, y5] ∧ Kp [a, b] H H' ∧ Rng H' a b ∧ H' F = some (.lst (ys.map V.str)) ∧ ys.length = n ∧ NamesR ys) ?_ ?_
    · walk_at "kp"
      refine w_lpR1 n rfl (by omega) (fun i σ' H' => ∃ (y3 y4 y5 : Option V) (ys : List Str), σ' = [some (.ref a), some (.int n), some (.ref F), y3, y4, y5] ∧ Kp [a, b] H H' ∧ Rng H' a b ∧ H' F = some (.lst (ys.map V.str)) ∧ ys.length = i ∧ NamesR ys)
        ⟨_, _, _, [], rfl, e1, R.new hF, upd_same, rfl, ⟨(fun s hs => by cases hs), (fun j s hs => by simp at hs)⟩⟩ (fun i σ' H1 hi h => ?_) (fun σ' H' h => h)
      obtain ⟨y3, y4, y5, ys, rfl, e2, R2, hF2, hl, hN⟩ := h
      walk_at "kp"
      refine w_cut (fun σ' H' => ∃ (word : Str) (y5 : Option V), σ' = [some (.ref a), some (.int n), some (.ref F), some (.int (i : Nat)), some (.str word), y5] ∧ Kp [a, b] H H' ∧ Rng H' a b ∧ H' F = some (.lst (ys.map V.str)) ∧ word.length ≤ 7 ∧ ∀ c ∈ word.cps.toList, c ∈ letters.cps.toList) ?_ ?_
      · walk_at "kp"
        intro p hp
        have R3 := R2.new (o := HO.lst [.int 0, .int 2, .int 1, .int 7, .int 4]) hp
        have e3 : Kp [a, b] H (upd H1 p (.lst [.int 0, .int 2, .int 1, .int 7, .int 4])) := e2.trans (Kp.new hp)
        have nFp : F ≠ p := ne_of_none hF2 hp
        refine ⟨a, b, p, _, rfl, R3, SqL.of upd_same, ne_free R2.da hp, ne_free R2.db hp, by simp, by simp, fun i2 v H4 hv e4 R4 => ?_⟩
        obtain ⟨m, rfl, hm⟩ : ∃ n : Nat, v = .int (n : Int) ∧ n ≤ 7 := by
          match i2, hv with
          | 0, h => exact ⟨0, (Option.some.inj h).symm, by decide⟩
          | 1, h => exact ⟨2, (Option.some.inj h).symm, by decide⟩
          | 2, h => exact ⟨1, (Option.some.inj h).symm, by decide⟩
          | 3, h => exact ⟨7, (Option.some.inj h).symm, by decide⟩
          | 4, h => exact ⟨4, (Option.some.inj h).symm, by decide⟩
          | i + 5, h => simp at h
        have hF4 : H4 F = some (.lst (ys.map V.str)) := e4.keep _ _ (by rw [upd_ne nFp]; exact hF2) (by simp [nFa, nFb])
        refine w_lpR1 m rfl (by omega) (fun j σ' H' => ∃ (word : Str) (y5 : Option V), σ' = [some (.ref a), some (.int n), some (.ref F), some (.int (i : Nat)), some (.str word), y5] ∧ Kp [a, b] H H' ∧ Rng H' a b ∧ H' F = some (.lst (ys.map V.str)) ∧ word.length = j ∧ ∀ c ∈ word.cps.toList, c ∈ letters.cps.toList)
          ⟨_, _, rfl, e3.trans e4, R4, hF4, rfl, fun c hc => by simp [Str.ofString_eq_toList] at hc⟩ (fun j σ' H5 hj h => ?_) (fun σ' H' h => ?_)
        · obtain ⟨word, y5, rfl, e5, R5, hF5, hw, hc⟩ := h
          walk_at "kp"
          refine ⟨a, b, 26, rfl, R5, by decide, by decide, fun z H6 z0 z1 e6 R6 => ?_⟩
          walk_at "kp"
          obtain ⟨c, hcz⟩ : ∃ c, letters.cps.toList[z.toNat]? = some c := ⟨_, List.getElem?_eq_getElem (by rw [letters_len]; omega)⟩
          refine w_ixS (c := c) (by show letters.length ≤ _; unfold Str.length; rw [← Array.length_toList, letters_len]; omega) (by rw [show z = ((z.toNat : Nat) : Int) by omega]; exact atI_nat hcz) ?_
          refine w_catS (by show word.length + 1 ≤ _; omega) ?_
          walk_at "kp"
          refine ⟨_, _, rfl, e5.trans e6, R6, e6.keep _ _ hF5 (by simp [nFa, nFb]), by rw [str_app_len, hw]; rfl, fun d hd => ?_⟩
          rw [str_app_list] at hd
          rcases List.mem_append.mp hd with hd | hd
          · exact hc d hd
          · have : d = c := by simpa using hd
            rw [this]; exact List.mem_of_getElem? hcz
        · obtain ⟨word, y5, rfl, e5, R5, hF5, hw, hc⟩ := h
          exact ⟨word, y5, rfl, e5, R5, hF5, by omega, hc⟩
      · rintro σ' H5 ⟨word, y5, rfl, e5, R5, hF5, hw, hc⟩
        walk_at "kp"
        refine w_bmL hF5 ?_
        walk_at "kp"
        obtain ⟨c, hcz⟩ : ∃ c, suf.cps.toList[i]? = some c := ⟨_, List.getElem?_eq_getElem (by rw [suf_len]; omega)⟩
        refine w_ixS (c := c) (by show suf.length ≤ _; unfold Str.length; rw [← Array.length_toList, suf_len]; omega) (atI_nat hcz) ?_
        refine w_catS (by show word.length + 1 ≤ _; omega) ?_
        walk_at "kp"
        refine w_append hF5 (by rw [List.length_map, sizeLine_eq]; omega) ?_
        walk_at "kp"
        refine ⟨_, _, _, ys ++ [word ++ ⟨#[c]⟩], rfl, e5.mut hF, R5.upd nFa nFb, by rw [upd_same]; simp, by simp [hl], hN.step hw hc (by rw [hl]; exact hcz)⟩
    · rintro σ' H5 ⟨y3, y4, y5, ys, rfl, e5, R5, hF5, hl, hN⟩
      walk_at "kp"
      refine ⟨F, ys, rfl, SqL.of hF5, by omega, fun zs p hperm hsort hp => ?_⟩
      exact k _ p zs (e5.trans (Kp.new hp)) (R5.new hp) upd_same (e5.free hp) (by rw [hperm.length_eq, hl]) (fun s hs => hN.ok s (hperm.mem_iff.mp hs)) (asc_sorted hsort (hperm.nodup_iff.mpr (hN.nodup (by omega))))
theorem cal__law_table (T : Txt P K mg C_Table C_Refused C_DeskError) : C8.Cal P w K mg base 8 "_law_table" (spTab K C_Table) [] := by
  refine mkCal T.d__law_table sc__law_table (fun vs H Q E h => ?_) (fun f cdv A outer s H vs Q E hr h => ?_)
  · obtain ⟨a, b, l, n, ws, lots, rfl, _⟩ := h; rfl
  · obtain ⟨a, b, l, n, ws, lots, rfl, R, hl, hw, nla, nlb, n1, n8, l12, hlot, k⟩ := h
    refine ⟨_, (pss_cons (ps_set (i := 3) sc__law_table.nd rfl (by first | exact Or.inl rfl | exact Or.inr rfl) (C8.pe_c (cal__law_names T) hr (by decide) rfl (pa_cons (pv 0) (pa_cons (pe_callB (KP.cq_lenK K rfl) rfl T.m_len KP.bt_len (pa_cons (pv 2) pa_nil)) pa_nil))))
 (pss_one (ps_ret (C8.pe_mk (mak_Table T) hr (by decide) rfl (pa_cons (pe_callTy (KP.cq_tupleK K rfl) rfl T.m_tuple KP.bt_tuple (pa_cons (C8.pe_c (cal__law_names T) hr (by decide) rfl (pa_cons (pv 0) (pa_cons (pv 1) pa_nil))) pa_nil)) (pa_cons (pe_callTy (KP.cq_tupleK K rfl) rfl T.m_tuple KP.bt_tuple (pa_cons (pe_lc (own := [("at", 4)]) rfl sc__law_table.nd (pi_range1 rfl T.m_range (pa_cons (pe_callB (KP.cq_lenK K rfl) rfl T.m_len KP.bt_len (pa_cons (pv 2) pa_nil)) pa_nil))
 (blkOk_by (N := n__law_table) (sc := fnScope s__law_table) (by decide +kernel)) (fun _ _ _ _ _ => (pg_name (i := 4) sc__law_table.nd rfl (by first | exact Or.inl rfl | exact Or.inr rfl))) (fun _ _ _ _ _ => pts_nil) (fun _ _ _ _ _ => (pe_tup (pa_cons (pe_ix (KP.ix_listK K rfl) (pv 3) (pv 4) (fun _ _ => rfl)) (pa_cons (pe_ix (KP.ix_listK K rfl) (pv 2) (pv 4) (fun _ _ => rfl)) pa_nil))))) pa_nil)) pa_nil)))))), ?_⟩
    (simp only [n__law_table, KP.st_cons, KP.st_nilc, KP.st_nil]); (try dsimp only [L2.cxOf, L2.Cx.nox, L2.Cx.wish])
    walk_at "kp"
    refine w_lenL (SqL.of hl) ?_
    have hwl := hw.length
    walk_at "kp"
    refine ⟨a, b, ws.length, rfl, R, by omega, fun H1 p1 nms e1 R1 hp1 f1 hn1 hnok hnasc => ?_⟩
    have hl1 : H1 l = some (.lst ws) := e1.keep _ _ hl (by simp [nla, nlb])
    walk_at "kp"
    refine ⟨a, b, n, rfl, R1, by omega, fun H2 p2 kns e2 R2 hp2 f2 hn2 hkok hkasc => ?_⟩
    have np1a : p1 ≠ a := ne_free R.da f1
    have np1b : p1 ≠ b := ne_free R.db f1
    have hp1' : H2 p1 = some (.lst (nms.map V.str)) := e2.keep _ _ hp1 (by simp [np1a, np1b])
    have hl2 : H2 l = some (.lst ws) := e2.keep _ _ hl1 (by simp [nla, nlb])
    walk_at "kp"
    refine w_tupD hp2 (isAll_strs kns) fun vk H3 e3 ik => ?_
    have hp1'' := e3.keep _ _ hp1' (by simp)
    have hl3 := e3.keep _ _ hl2 (by simp)
    walk_at "kp"
    refine w_lenL (SqL.of hl3) ?_
    walk_at "kp"
    have k3 : Kp [a, b] H H3 := (e1.trans e2).trans e3.wide
    have hw3 : IsAll K H3 ws lots := hw.kp k3
    refine w_lcR1V K ws.length rfl (Str × TInt) [] (fun _ => True) (fun i acc => acc = (nms.zip lots).take i) (by omega) (by simp) True.intro (fun _ _ _ _ _ => True.intro) (by simp) (fun i acc H4 QE QF hi e4 _ hj hl1 kE kF => ?_) ?_
    · have g1 : nms[i]? = some (nms[i]'(by omega)) := by simp
      have g2 : lots[i]? = some (lots[i]'(by omega)) := by simp
      obtain ⟨x, hx, ix⟩ := (isAll_strs (K := K) (H := H4) nms).get' g1
      obtain ⟨y, hy, iy⟩ := hw3.get' g2
      have hxe := ix.str
      subst hxe
      walk_at "kp"
      refine ⟨rfl, ?_⟩
      walk_at "kp"
      refine w_ixL (SqL.of (e4.keep _ _ hp1'' (by simp))) (atI_nat hx) ?_
      walk_at "kp"
      refine w_ixL (SqL.of (e4.keep _ _ hl3 (by simp))) (atI_nat hy) ?_
      walk_at "kp"
      intro q hq
      have e5 : Kp [] H4 (upd H4 q (.tup [.str nms[i], y])) := Kp.new hq
      refine kE _ (nms[i], lots[i]) _ e5 True.intro (is_pair (SqT.of upd_same) (ix.kp e5) ((iy.kp e4).kp e5)) ?_
      rw [hj, List.take_add_one]
      have gz : (nms.zip lots)[i]? = some (nms[i], lots[i]) := List.getElem?_zip_eq_some.mpr ⟨g1, g2⟩
      rw [gz]
      rfl
    · intro D us ys H4 hD e4 _ hj hlen hall hH4
      have hzl : (nms.zip lots).length = ws.length := by simp; omega
      rw [List.take_of_length_le (by omega)] at hj
      subst hj
      walk_at "kp"
      refine w_tupD hH4 hall fun vt H5 e5 it => ?_
      walk_at "kp"
      intro t dx nt ndx nex
      have k5 : Kp [a, b] H H5 := k3.trans ((e4.trans e5).wide)
      have e6 : Kp [] H5 (upd (upd H5 dx (.own t)) t (.ins C_Table dx [])) := Kp.ins nt ndx nex
      have R6 := ((R2.kp (e3.trans (e4.trans e5)) (by simp) (by simp))).kp e6 (by simp) (by simp)
      have hmap1 : (nms.zip lots).map Prod.fst = nms := List.map_fst_zip (by omega)
      have hmap2 : (nms.zip lots).map Prod.snd = lots := List.map_snd_zip (by omega)
      refine ⟨t, dx, vk, vt, kns, nms.zip lots, rfl, upd_same, ((ik.kp e4).kp e5).kp e6, it.kp e6, ⟨by omega, by omega, hkok, hkasc, by omega, fun p hp => hnok p.1 (by rw [← hmap1]; exact List.mem_map_of_mem hp), by rw [hmap1]; exact hnasc, fun p hp => by rw [hn2]; exact hlot p.2 (by rw [← hmap2]; exact List.mem_map_of_mem hp)⟩, fun H7 hT e7 => ⟨rfl, ?_⟩⟩
      have nta : t ≠ a := ne_free (R2.kp (e3.trans (e4.trans e5)) (by simp) (by simp)).da nt
      have ntb : t ≠ b := ne_free (R2.kp (e3.trans (e4.trans e5)) (by simp) (by simp)).db nt
      exact k H7 t kns _ hT hn2 hmap2 (k5.trans (Kp.hide1 e6.wide e7 nt)) (R6.kp e7 (by simp [nta.symm]) (by simp [ntb.symm])) (k5.free nt)
end
end K85
namespace K85
open PySem PySem.Spec PyProof.Rows L2 KP
open PySem.W (Datum Tup DatumOrd)
open C8 (fnScope fnBody fnArgs fnScope_by)
section
variable {P : Program} {w : World} {K : PySem.W.Frag} {mg : Str → Option Value} {base : Heap} {C_Table C_Refused C_DeskError : Addr}
theorem cal__law_shuffled (T : Txt P K mg C_Table C_Refused C_DeskError) : C8.Cal P w K mg base 2 "_law_shuffled" (spShuf K) [] := by
  refine mkCal T.d__law_shuffled sc__law_shuffled (fun vs H Q E h => ?_) (fun f cdv A outer s H vs Q E hr h => ?_)
  · obtain ⟨α, _, _, _, a, b, s, ws, xs, rfl, _⟩ := h; rfl
  · obtain ⟨α, i1, i2, i3, a, b, s, ws, xs, rfl, R, hs, hw, hd, hl, k⟩ := h
    refine ⟨_, (pss_cons (ps_par (i := 2) (j := 3) rfl sc__law_shuffled.nd rfl rfl (by decide) rfl rfl (pa_cons (pe_callTy (KP.cq_listK K rfl) rfl T.m_list KP.bt_list (pa_cons (pv 1) pa_nil)) (pa_cons (pe_lst pa_nil) pa_nil)) rfl)
 (C8.pss_cut (ps_while PassesOwn.never (pt_cmpR (KP.op_neXK K rfl hr.units) (pv 2) (pe_lst pa_nil) (nomark _))
 (pss_one (ps_expr (KP.pe_bmK K rfl PySem.F.plainAttrs_list PySem.F.slot_list_append PySem.F.type_list_append mt_append (pv 3) (pa_cons (KP.pe_bmK K rfl PySem.F.plainAttrs_list PySem.F.slot_list_pop PySem.F.type_list_pop mt_popAt (pv 2) (pa_cons (C8.pe_c (cal__law_draw T) hr (by decide) rfl (pa_cons (pv 0) (pa_cons (pe_callB (KP.cq_lenK K rfl) rfl T.m_len KP.bt_len (pa_cons (pv 2) pa_nil)) pa_nil))) pa_nil)) pa_nil)))))
 (pss_one (ps_ret (pv 3))))), ?_⟩
    (simp only [n__law_shuffled, KP.st_cons, KP.st_nilc, KP.st_nil]); (try dsimp only [L2.cxOf, L2.Cx.nox, L2.Cx.wish])
    have hwl := hw.length
    walk_at "kp"
    refine w_listL hs fun r hr0 => ?_
    have nra : r ≠ a := ne_free R.da hr0
    have nrb : r ≠ b := ne_free R.db hr0
    walk_at "kp"
    intro f hf
    have nfr : r ≠ f := ne_of_none upd_same hf
    have R1 := (R.new (o := HO.lst ws) hr0)
    have nfa : f ≠ a := ne_free R1.da hf
    have nfb : f ≠ b := ne_free R1.db hf
    have e1 : Kp [] H (upd (upd H r (.lst ws)) f (.lst [])) := (Kp.new hr0).trans (Kp.new hf)
    have hf0 : H f = none := (Kp.new (M := []) hr0).free hf
    walk_at "kp"
    refine w_cut (fun σ' H' => ∃ (us : List V) (ys : List α), σ' = [some (.ref a), some (.ref s), some (.ref r), some (.ref f)] ∧ Kp [a, b] H H' ∧ Rng H' a b ∧ H' f = some (.lst us) ∧ IsAll K H' us ys ∧ ys.Perm xs) ?_ ?_
    · refine w_whileQ (fun m σ' H' => ∃ (rs us : List V) (zs ys : List α), m = zs.length ∧ σ' = [some (.ref a), some (.ref s), some (.ref r), some (.ref f)] ∧ Kp [a, b] H H' ∧ Rng H' a b ∧ H' f = some (.lst us) ∧ IsAll K H' us ys ∧ H' r = some (.lst rs) ∧ IsAll K H' rs zs ∧ (ys ++ zs).Perm xs)
        _ ⟨ws, [], xs, [], rfl, rfl, e1.wide, R1.new hf, upd_same, .nil, by rw [upd_ne nfr, upd_same], hw.kp e1, List.Perm.refl _⟩ ?_
      rintro m σ' H1 Qt ⟨rs, us, zs, ys, rfl, rfl, e2, R2, h1, h2, h3, h4, hp⟩ qT qF
      have hlz : (ys ++ zs).length = xs.length := hp.length_eq
      rw [List.length_append] at hlz
      have l4 := h4.length
      walk_at "kp"
      intro q hq
      have e3 : Kp [] H1 (upd H1 q (.lst [])) := Kp.new hq
      have nqr : r ≠ q := ne_of_none h3 hq
      have nqf : f ≠ q := ne_of_none h1 hq
      have h3' : (upd H1 q (.lst [])) r = some (.lst rs) := by rw [upd_ne nqr]; exact h3
      have h1' : (upd H1 q (.lst [])) f = some (.lst us) := by rw [upd_ne nqf]; exact h1
      refine w_neX zs ([] : List α) (is_list (SqL.of h3') (h4.kp e3)) (is_list (SqL.of upd_same) .nil) (by show Datum.depth α + 1 ≤ 60; omega) ?_
      walk_at "kp"
      by_cases hne : zs ≠ []
      · rw [decide_eq_false hne]
        refine qT _ ?_
        walk_at "kp"
        have hzp : 0 < zs.length := List.length_pos_iff.mpr hne
        refine w_bmL h1' ?_
        walk_at "kp"
        refine w_bmL h3' ?_
        walk_at "kp"
        refine w_lenL (SqL.of h3') ?_
        walk_at "kp"
        have R3 := R2.kp e3 (by simp) (by simp)
        refine ⟨a, b, rs.length, rfl, R3, by omega, by omega, fun z H4 z0 z1 e4 R4 => ?_⟩
        have hr4 : H4 r = some (.lst rs) := e4.keep _ _ h3' (by simp [nra, nrb])
        have hf4 : H4 f = some (.lst us) := e4.keep _ _ h1' (by simp [nfa, nfb])
        have gz : zs[z.toNat]? = some (zs[z.toNat]'(by omega)) := List.getElem?_eq_getElem (by omega)
        have a4 := (h4.kp e3).kp e4
        have b4 := (h2.kp e3).kp e4
        obtain ⟨y, hy, iy⟩ := a4.get' gz
        walk_at "kp"
        refine ⟨r, rs, z, z.toNat, y, rfl, rfl, hr4, by omega, by omega, seqIx z0 z1, hy, ?_⟩
        have e5 : Kp [r] H4 (upd H4 r (.lst (rs.eraseIdx z.toNat))) := Kp.set hr4 rfl (by simp)
        have hf5 : (upd H4 r (.lst (rs.eraseIdx z.toNat))) f = some (.lst us) := by rw [upd_ne nfr.symm]; exact hf4
        walk_at "kp"
        refine w_append hf5 (by rw [sizeLine_eq, h2.length]; omega) ?_
        have e6 : Kp [f] (upd H4 r (.lst (rs.eraseIdx z.toNat))) (upd (upd H4 r (.lst (rs.eraseIdx z.toNat))) f (.lst (us ++ [y]))) := Kp.set hf5 rfl (by simp)
        walk_at "kp"
        have e7 : Kp [a, b] H H4 := (e2.trans e3.wide).trans e4
        refine ⟨(zs.eraseIdx z.toNat).length, ?_, rs.eraseIdx z.toNat, us ++ [y], zs.eraseIdx z.toNat, ys ++ [zs[z.toNat]'(by omega)], rfl, rfl, (e7.mut hr0).mut hf0, (R4.upd nra nrb).upd nfa nfb, upd_same, ((b4.kp e5).kp e6).append (.cons ((iy.kp e5).kp e6) .nil), by rw [upd_ne nfr, upd_same], ((a4.erase z.toNat).kp e5).kp e6, ?_⟩
        · rw [List.length_eraseIdx, if_pos (by omega)]; omega
        · rw [List.append_assoc]
          exact (List.Perm.append_left ys (erase_perm zs z.toNat _ gz)).trans hp
      · have he : zs = [] := Classical.not_not.mp hne
        rw [decide_eq_true he]
        refine qF _ ⟨us, ys, rfl, e2.trans e3.wide, R2.kp e3 (by simp) (by simp), h1', h2.kp e3, ?_⟩
        subst he
        simpa using hp
    · rintro σ' H1 ⟨us, ys, rfl, e2, R2, h1, h2, hp⟩
      walk_at "kp"
      exact k H1 f us ys e2 R2 h1 h2 hp hf0
theorem cal__law_lots (T : Txt P K mg C_Table C_Refused C_DeskError) : C8.Cal P w K mg base 3 "_law_lots" (spLots K) [] := by
  refine mkCal T.d__law_lots sc__law_lots (fun vs H Q E h => ?_) (fun f cdv A outer s H vs Q E hr h => ?_)
  · obtain ⟨a, b, n, m, rfl, _⟩ := h; rfl
  · obtain ⟨a, b, n, m, rfl, R, n1, n8, m12, k⟩ := h
    refine ⟨_, (pss_cons (ps_asg (pe_tup (pa_cons (C8.pe_c (cal__law_pick T) hr (by decide) rfl (pa_cons (pv 0) (pa_cons (pe_lst (pa_cons pe_int (pa_cons pe_int (pa_cons pe_int (pa_cons pe_int (pa_cons pe_int pa_nil)))))) pa_nil))) (pa_cons (pe_lst pa_nil) pa_nil))) (KP.pg_tupK (n := 2) K rfl rfl (pgs_cons (pg_name (i := 3) sc__law_lots.nd rfl (by first | exact Or.inl rfl | exact Or.inr rfl)) (pgs_cons (pg_name (i := 4) sc__law_lots.nd rfl (by first | exact Or.inl rfl | exact Or.inr rfl)) pgs_nil))))
 (C8.pss_cut (ps_for PassesOwn.never rfl (pi_range1 rfl T.m_range (pa_cons (pv 2) pa_nil)) (pg_name (i := 5) sc__law_lots.nd rfl (by first | exact Or.inl rfl | exact Or.inr rfl))
 (pss_cons (ps_set (i := 6) sc__law_lots.nd rfl (by first | exact Or.inl rfl | exact Or.inr rfl) (pe_callTy (KP.cq_tupleK K rfl) rfl T.m_tuple KP.bt_tuple (pa_cons (pe_lc (own := [("kind", 7)]) rfl sc__law_lots.nd (pi_range1 rfl T.m_range (pa_cons (pv 1) pa_nil))
 (blkOk_by (N := n__law_lots) (sc := fnScope s__law_lots) (by decide +kernel)) (fun _ _ _ _ _ => (pg_name (i := 7) sc__law_lots.nd rfl (by first | exact Or.inl rfl | exact Or.inr rfl))) (fun _ _ _ _ _ => (pts_one (pt_cmpR op_eq (C8.pe_c (cal__law_draw T) hr (by decide) rfl (pa_cons (pv 0) (pa_cons (pv 3) pa_nil))) pe_int (nomark _)))) (fun _ _ _ _ _ => (pv 7))) pa_nil)))
 (C8.pss_cut (ps_if (PW.pt (pw_and (pt_cmpR (KP.op_eqXK K rfl hr.units) (pv 6) (pe_tup pa_nil) (nomark _)) (pw_and1 (pt_cmpR op_gt (C8.pe_c (cal__law_draw T) hr (by decide) rfl (pa_cons (pv 0) (pa_cons pe_int pa_nil))) pe_int (nomark _)))))
 (pss_one (ps_set (i := 6) sc__law_lots.nd rfl (by first | exact Or.inl rfl | exact Or.inr rfl) (pe_tup (pa_cons (C8.pe_c (cal__law_draw T) hr (by decide) rfl (pa_cons (pv 0) (pa_cons (pv 1) pa_nil))) pa_nil))))
 pss_nil)
 (pss_one (ps_expr (KP.pe_bmK K rfl PySem.F.plainAttrs_list PySem.F.slot_list_append PySem.F.type_list_append mt_append (pv 4) (pa_cons (pe_ifExp (PW.pt (pw_and (pt_cmpR op_gt (pv 5) pe_int (nomark _)) (pw_and1 (pt_cmpR op_eq (C8.pe_c (cal__law_draw T) hr (by decide) rfl (pa_cons (pv 0) (pa_cons pe_int pa_nil))) pe_int (nomark _))))) (pe_ix (KP.ix_listK K rfl) (pv 4) (C8.pe_c (cal__law_draw T) hr (by decide) rfl (pa_cons (pv 0) (pa_cons (pv 5) pa_nil))) (fun _ _ => rfl)) (pv 6)) pa_nil)))))))
 (pss_one (ps_ret (pv 4))))), ?_⟩
    (simp only [n__law_lots, KP.st_cons, KP.st_nilc, KP.st_nil]); (try dsimp only [L2.cxOf, L2.Cx.nox, L2.Cx.wish])
    walk_at "kp"
    intro p hp
    have R1 := R.new (o := HO.lst [.int 2, .int 2, .int 3, .int 4, .int 1]) hp
    refine ⟨a, b, p, _, rfl, R1, SqL.of upd_same, ne_free R.da hp, ne_free R.db hp, by simp, by simp, fun i v H2 hv e2 R2 => ?_⟩
    obtain ⟨sp, rfl, hsp⟩ : ∃ n : Int, v = .int n ∧ 1 ≤ n ∧ n ≤ 4 := by
      match i, hv with
      | 0, h => exact ⟨2, (Option.some.inj h).symm, by decide, by decide⟩
      | 1, h => exact ⟨2, (Option.some.inj h).symm, by decide, by decide⟩
      | 2, h => exact ⟨3, (Option.some.inj h).symm, by decide, by decide⟩
      | 3, h => exact ⟨4, (Option.some.inj h).symm, by decide, by decide⟩
      | 4, h => exact ⟨1, (Option.some.inj h).symm, by decide, by decide⟩
      | i + 5, h => simp at h
    have e02 : Kp [a, b] H H2 := (Kp.new hp).trans e2
    walk_at "kp"
    intro F hF
    have R3 := R2.new (o := HO.lst []) hF
    walk_at "kp"
    intro T0 hT0
    have nFT : F ≠ T0 := ne_of_none upd_same hT0
    have e3' : Kp [a, b] H (upd (upd H2 F (.lst [])) T0 (.tup [.int sp, .ref F])) := (e02.trans (Kp.new hF)).trans (Kp.new hT0)
    have R3' := R3.new (o := HO.tup [.int sp, .ref F]) hT0
    refine w_gTup (SqT.of upd_same) rfl ?_
    have hF3 : (upd (upd H2 F (.lst [])) T0 (.tup [.int sp, .ref F])) F = some (.lst []) := by rw [upd_ne nFT, upd_same]
    have nFa : F ≠ a := ne_free R2.da hF
    have nFb : F ≠ b := ne_free R2.db hF
    have hF0 : H F = none := e02.free hF
    walk_at "kp"
    refine w_cut (fun σ' H' => ∃ (y5 y6 y7 : Option V) (ws : List V) (lots : List TInt), σ' = [some (.ref a), some (.int n), some (.int m), some (.int sp), some (.ref F), y5, y6, y7] ∧ Kp [a, b] H H' ∧ Rng H' a b ∧ H' F = some (.lst ws) ∧ IsAll K H' ws lots ∧ lots.length = m ∧ (∀ t ∈ lots, listB t.items n = true)) ?_ ?_
    · walk_at "kp"
      refine w_lpR1 m rfl (by omega) (fun i σ' H' => ∃ (y5 y6 y7 : Option V) (ws : List V) (lots : List TInt), σ' = [some (.ref a), some (.int n), some (.int m), some (.int sp), some (.ref F), y5, y6, y7] ∧ Kp [a, b] H H' ∧ Rng H' a b ∧ H' F = some (.lst ws) ∧ IsAll K H' ws lots ∧ lots.length = i ∧ (∀ t ∈ lots, listB t.items n = true))
        ⟨_, _, _, [], [], rfl, e3', R3', hF3, .nil, rfl, (fun t ht => by cases ht)⟩ (fun i σ' H1 hi h => ?_) (fun σ' H' h => h)
      obtain ⟨y5, y6, y7, ws, lots, rfl, e3, R4, h1, h2, hl, hB⟩ := h
      have hwl := h2.length
      walk_at "kp"
      refine w_lcR1V K n rfl Int [a, b] (fun H => Rng H a b) (fun i acc => acc.Pairwise (· < ·) ∧ ∀ x ∈ acc, 0 ≤ x ∧ x < i) (by omega) (by simp [R4.da, R4.db]) R4 R4.grow (by simp) (fun i acc H3 QE QF hi e4 R5 hj hl1 kE kF => ?_) ?_
      · walk_at "kp"
        refine ⟨rfl, ?_⟩
        walk_at "kp"
        refine ⟨a, b, sp, rfl, R5, by omega, by omega, fun z H5 z0 z1 e6 R6 => ?_⟩
        walk_at "kp"
        refine w_itD (fun _ => ?_) (fun _ => ?_)
        · walk_at "kp"
          refine kE _ (i : Int) _ e6 R6 (is_int _) ⟨?_, fun x hx => ?_⟩
          · refine List.pairwise_append.mpr ⟨hj.1, by simp, fun x hx y hy => ?_⟩
            rw [List.mem_singleton.mp hy]
            exact (hj.2 x hx).2
          · rcases List.mem_append.mp hx with hx | hx
            · have := hj.2 x hx; omega
            · have : x = (i : Int) := by simpa using hx
              omega
        · exact kF _ e6 R6 ⟨hj.1, fun x hx => by have := hj.2 x hx; omega⟩
      · intro D us ys H4 hD e4 R5 hj hlen hall hH4
        walk_at "kp"
        refine w_tupD hH4 hall fun v H5 e5 iv => ?_
        have R6 := R5.kp e5 (by simp) (by simp)
        have e05 : Kp [a, b] H H5 := (e3.trans e4).trans e5.wide
        have hF5 : H5 F = some (.lst ws) := e5.keep _ _ (e4.keep _ _ h1 (by simp [nFa, nFb])) (by simp)
        have h25 := (h2.kp e4).kp e5
        have hyb : listB ys n = true := listB_iff.mpr ⟨fun x hx => hj.2 x hx, hj.1⟩
        walk_at "kp"
        refine w_cut (fun σ' H' => ∃ (v : V) (t : TInt) (y7 : Option V), σ' = [some (.ref a), some (.int n), some (.int m), some (.int sp), some (.ref F), some (.int (i : Nat)), some v, y7] ∧ Kp [a, b] H H' ∧ Rng H' a b ∧ H' F = some (.lst ws) ∧ IsAll K H' ws lots ∧ Is K H' v t ∧ listB t.items n = true) ?_ ?_
        · walk_at "kp"
          intro q hq
          have e6 : Kp [] H5 (upd H5 q (.tup [])) := Kp.new hq
          refine w_eqX (Tup.mk ys) (Tup.mk []) (iv.kp e6) (is_newT hq .nil) (by decide) ?_
          walk_at "kp"
          have R7 := R6.kp e6 (by simp) (by simp)
          have h27 := h25.kp e6
          have hF7 := e6.keep _ _ hF5 (by simp)
          refine w_itD (fun _ => ?_) (fun _ => ?_)
          · walk_at "kp"
            refine ⟨a, b, 4, rfl, R7, by decide, by decide, fun z H8 z0 z1 e8 R8 => ?_⟩
            have hF8 := e8.keep _ _ hF7 (by simp [nFa, nFb])
            have h28 := h27.kp e8
            walk_at "kp"
            refine w_itD (fun _ => ?_) (fun _ => ?_)
            · walk_at "kp"
              refine ⟨a, b, n, rfl, R8, by omega, by omega, fun z H9 z0 z1 e9 R9 => ?_⟩
              walk_at "kp"
              intro q2 hq2
              have e10 : Kp [] H9 (upd H9 q2 (.tup [.int z])) := Kp.new hq2
              walk_at "kp"
              refine ⟨_, Tup.mk [z], _, rfl, (((e05.trans e6.wide).trans e8).trans e9).trans e10.wide, R9.kp e10 (by simp) (by simp), e10.keep _ _ (e9.keep _ _ hF8 (by simp [nFa, nFb])) (by simp), (h28.kp e9).kp e10, is_newT hq2 (isAll_ints [z]), ?_⟩
              exact listB_iff.mpr ⟨fun x hx => by have : x = z := List.mem_singleton.mp hx
                                                  omega, by simp⟩
            · exact ⟨_, Tup.mk ys, _, rfl, (e05.trans e6.wide).trans e8, R8, hF8, h28, (iv.kp e6).kp e8, hyb⟩
          · exact ⟨_, Tup.mk ys, _, rfl, e05.trans e6.wide, R7, hF7, h27, iv.kp e6, hyb⟩
        · rintro σ' H6 ⟨v, t, y7, rfl, e6, R7, hF7, h27, it, htb⟩
          walk_at "kp"
          refine w_bmL hF7 ?_
          walk_at "kp"
          have fin : ∀ (H8 : Hp) (v1 : V) (t : TInt), Kp [a, b] H H8 → Rng H8 a b → H8 F = some (.lst ws) → IsAll K H8 ws lots → Is K H8 v1 t → listB t.items n = true →
              (∃ (y5' y6' y7' : Option V) (ws' : List V) (lots' : List TInt), [some (.ref a), some (.int n), some (.int m), some (.int sp), some (.ref F), some (.int (i : Nat)), some v, y7] = [some (.ref a), some (.int n), some (.int m), some (.int sp), some (.ref F), y5', y6', y7'] ∧ Kp [a, b] H (upd H8 F (.lst (ws ++ [v1]))) ∧ Rng (upd H8 F (.lst (ws ++ [v1]))) a b ∧ (upd H8 F (.lst (ws ++ [v1]))) F = some (.lst ws') ∧ IsAll K (upd H8 F (.lst (ws ++ [v1]))) ws' lots' ∧ lots'.length = i + 1 ∧ (∀ t ∈ lots', listB t.items n = true)) := fun H8 v1 t e8 R8 hF8 h28 iv hb => by
            have e9 : Kp [F] H8 (upd H8 F (.lst (ws ++ [v1]))) := Kp.set hF8 rfl (by simp)
            refine ⟨_, _, _, ws ++ [v1], lots ++ [t], rfl, e8.mut hF0, R8.upd nFa nFb, upd_same, (h28.kp e9).append (.cons (iv.kp e9) .nil), by simp [hl], fun u hu => ?_⟩
            rcases List.mem_append.mp hu with hu | hu
            · exact hB u hu
            · rw [List.mem_singleton.mp hu]; exact hb
          have sz : ∀ H8 : Hp, IsAll K H8 ws lots → ws.length < sizeLine := fun H8 h => by rw [sizeLine_eq, h.length]; omega
          refine w_itD (fun hi0 => ?_) (fun _ => ?_)
          · walk_at "kp"
            refine ⟨a, b, 7, rfl, R7, by decide, by decide, fun z H8 z0 z1 e8 R8 => ?_⟩
            have hF8 := e8.keep _ _ hF7 (by simp [nFa, nFb])
            walk_at "kp"
            refine w_itD (fun _ => ?_) (fun _ => ?_)
            · walk_at "kp"
              refine ⟨a, b, i, rfl, R8, by omega, by omega, fun z H9 z0 z1 e9 R9 => ?_⟩
              have hF9 := e9.keep _ _ hF8 (by simp [nFa, nFb])
              have h29 := (h27.kp e8).kp e9
              have g : lots[z.toNat]? = some (lots[z.toNat]'(by omega)) := List.getElem?_eq_getElem (by omega)
              obtain ⟨y, hy, iy⟩ := h29.get' g
              walk_at "kp"
              refine w_ixL (SqL.of hF9) (v := y) (by rw [show z = ((z.toNat : Nat) : Int) by omega]; exact atI_nat hy) ?_
              walk_at "kp"
              refine w_append hF9 (sz _ h29) ?_
              walk_at "kp"
              exact fin H9 y _ ((e6.trans e8).trans e9) R9 hF9 h29 iy (hB _ (List.getElem_mem _))
            · walk_at "kp"
              refine w_append hF8 (sz _ (h27.kp e8)) ?_
              walk_at "kp"
              exact fin H8 v t (e6.trans e8) R8 hF8 (h27.kp e8) (it.kp e8) htb
          · walk_at "kp"
            refine w_append hF7 (sz _ h27) ?_
            walk_at "kp"
            exact fin H6 v t e6 R7 hF7 h27 it htb
    · rintro σ' H5 ⟨y5, y6, y7, ws, lots, rfl, e5, R5, hF5, h5, hl, hB⟩
      walk_at "kp"
      exact k H5 F ws lots e5 R5 hF5 h5 hl hB hF0
/-- one turn up the path -/
theorem cal__law_forest (T : Txt P K mg C_Table C_Refused C_DeskError) : C8.Cal P w K mg base 3 "_law_forest" (spForest K) [] := by
  refine mkCal T.d__law_forest sc__law_forest (fun vs H Q E h => ?_) (fun f cdv A outer s H vs Q E hr h => ?_)
  · obtain ⟨a, b, n, m, rfl, _⟩ := h; rfl
  · obtain ⟨a, b, n, m, rfl, R, n1, n8, m12, k⟩ := h
    refine ⟨_, (pss_cons (ps_par3 (i := 3) (j := 4) (l := 5) rfl sc__law_forest.nd rfl rfl rfl (by decide) (by decide) (by decide) rfl rfl rfl (pa_cons (pe_lc (own := [("kind", 7)]) rfl sc__law_forest.nd (pi_range1 rfl T.m_range (pa_cons (pv 1) pa_nil))
 (blkOk_by (N := n__law_forest) (sc := fnScope s__law_forest) (by decide +kernel)) (fun _ _ _ _ _ => (pg_name (i := 7) sc__law_forest.nd rfl (by first | exact Or.inl rfl | exact Or.inr rfl))) (fun _ _ _ _ _ => pts_nil) (fun _ _ _ _ _ => (pe_op op_sub (C8.pe_c (cal__law_draw T) hr (by decide) rfl (pa_cons (pv 0) (pa_cons (pe_op op_add (pv 7) pe_int) pa_nil))) pe_int))) (pa_cons (C8.pe_c (cal__law_shuffled T) hr (by decide) rfl (pa_cons (pv 0) (pa_cons (pe_listRg rfl rfl T.m_list (prg_1 rfl T.m_range (pv 1))) pa_nil))) (pa_cons (pe_lst pa_nil) pa_nil))) rfl)
 (C8.pss_cut (ps_for PassesOwn.never rfl (pi_range1 rfl T.m_range (pa_cons (pv 2) pa_nil)) (pg_name (i := 6) sc__law_forest.nd rfl (by first | exact Or.inl rfl | exact Or.inr rfl))
 (pss_cons (ps_par (i := 7) (j := 8) rfl sc__law_forest.nd rfl rfl (by decide) rfl rfl (pa_cons (C8.pe_c (cal__law_pick T) hr (by decide) rfl (pa_cons (pv 0) (pa_cons (pe_lst (pa_cons (pe_op op_mod (pe_callTy KP.cq_int rfl T.m_int KP.bt_int (pa_cons (pv 6) pa_nil)) (pv 1)) (pa_cons (C8.pe_c (cal__law_draw T) hr (by decide) rfl (pa_cons (pv 0) (pa_cons (pv 1) pa_nil))) (pa_cons (pe_op op_sub (pv 1) pe_int) (pa_cons (pe_op op_sub (C8.pe_c (cal__law_draw T) hr (by decide) rfl (pa_cons (pv 0) (pa_cons (pe_op op_add (pv 1) pe_int) pa_nil))) pe_int) pa_nil))))) pa_nil))) (pa_cons (pe_lst pa_nil) pa_nil)) rfl)
 (C8.pss_cut (ps_for PassesOwn.never rfl (pi_range1 rfl T.m_range (pa_cons (pv 1) pa_nil)) (pg_name (i := 9) sc__law_forest.nd rfl (by first | exact Or.inl rfl | exact Or.inr rfl))
 (pss_one (ps_if (pt_cmpR op_ge (pv 7) pe_int (nomark _))
 (pss_cons (ps_expr (KP.pe_bmK K rfl PySem.F.plainAttrs_list PySem.F.slot_list_append PySem.F.type_list_append mt_append (pv 8) (pa_cons (pe_ix (KP.ix_listK K rfl) (pv 4) (pv 7) (fun _ _ => rfl)) pa_nil)))
 (pss_one (ps_set (i := 7) sc__law_forest.nd rfl (by first | exact Or.inl rfl | exact Or.inr rfl) (pe_ix (KP.ix_listK K rfl) (pv 3) (pv 7) (fun _ _ => rfl)))))
 pss_nil)))
 (pss_one (ps_expr (KP.pe_bmK K rfl PySem.F.plainAttrs_list PySem.F.slot_list_append PySem.F.type_list_append mt_append (pv 5) (pa_cons (pe_callTy (KP.cq_tupleK K rfl) rfl T.m_tuple KP.bt_tuple (pa_cons (pe_callB (KP.cr_sortedK K rfl) rfl T.m_sorted KP.bt_sorted (pa_cons (pv 8) pa_nil)) pa_nil)) pa_nil)))))))
 (pss_one (ps_ret (pv 5))))), ?_⟩
    (simp only [n__law_forest, KP.st_cons, KP.st_nilc, KP.st_nil]); (try dsimp only [L2.cxOf, L2.Cx.nox, L2.Cx.wish])
    walk_at "kp"
    refine w_lcR1V K n rfl Int [a, b] (fun H => Rng H a b) (fun i acc => acc.length = i ∧ AboveR acc) (by omega) (by simp [R.da, R.db]) R R.grow ⟨rfl, fun i x h => by simp at h⟩ (fun i acc H3 QE QF hi e4 R5 hj hl1 kE kF => ?_) ?_
    · walk_at "kp"
      refine ⟨rfl, ?_⟩
      walk_at "kp"
      refine ⟨a, b, (i : Int) + 1, rfl, R5, by omega, by omega, fun z H5 z0 z1 e6 R6 => ?_⟩
      walk_at "kp"
      refine kE _ (z - 1) _ e6 R6 (is_int _) ⟨by simp [hj.1], fun j x hjx => ?_⟩
      by_cases hjl : j < acc.length
      · rw [List.getElem?_append_left hjl] at hjx
        exact hj.2 j x hjx
      · have hje : j = acc.length := by
          have := (List.getElem?_eq_some_iff.mp hjx).1
          simp at this; omega
        subst hje
        rw [List.getElem?_append_right (Nat.le_refl _)] at hjx
        simp at hjx
        have := hj.1
        omega
    · intro D us A2 H1 hD e1 R1 hj hlen hall hH1
      have := hall.ints
      subst this
      have nDa : D ≠ a := ne_free R.da hD
      have nDb : D ≠ b := ne_free R.db hD
      walk_at "kp"
      refine ⟨n, rfl, RgOk.of_le (by omega) (by omega) (by omega) (by omega), fun q hq => ?_⟩
      rw [rgV_nat]
      walk_at "kp"
      have R2 := R1.new (o := HO.lst (((List.range n).map fun i => ((i : Nat) : Int)).map V.int)) hq
      refine ⟨Int, inferInstance, inferInstance, inferInstance, a, b, q, _, _, rfl, R2, SqL.of upd_same, isAll_ints _, by decide, by simp; omega, fun H2 O us ys e2 R3 hO hOa hperm fO => ?_⟩
      have := hOa.ints
      subst this
      have ylen : ys.length = n := by rw [hperm.length_eq]; simp
      have ynd : ys.Nodup := hperm.nodup_iff.mpr (List.pairwise_map.mpr (List.pairwise_lt_range.imp fun h => by omega))
      have yr : ∀ z ∈ ys, 0 ≤ z ∧ z < n := fun z hz => by
        obtain ⟨i, hi, e⟩ := List.mem_map.mp (hperm.mem_iff.mp hz)
        have := List.mem_range.mp hi
        omega
      have nOa : O ≠ a := ne_free R2.da fO
      have nOb : O ≠ b := ne_free R2.db fO
      walk_at "kp"
      intro F hF
      have R4 := R3.new (o := HO.lst []) hF
      have nFa : F ≠ a := ne_free R3.da hF
      have nFb : F ≠ b := ne_free R3.db hF
      have e3 : Kp [a, b] H1 (upd H2 F (.lst [])) := ((Kp.new hq).trans e2).trans (Kp.new hF)
      have eH : Kp [a, b] H (upd H2 F (.lst [])) := e1.trans e3
      have hF0 : H F = none := (e1.trans ((Kp.new hq).trans e2)).free hF
      have nDF : D ≠ F := ne_of_none ((((Kp.new (M := [a, b]) hq).trans e2)).keep _ _ hH1 (by simp [nDa, nDb])) hF
      have nOF : O ≠ F := ne_of_none hO hF
      have hD5 : (upd H2 F (.lst [])) D = some (.lst (A2.map V.int)) := e3.keep _ _ hH1 (by simp [nDa, nDb])
      have hO5 : (upd H2 F (.lst [])) O = some (.lst (ys.map V.int)) := by rw [upd_ne nOF]; exact hO
      have hF5 : (upd H2 F (.lst [])) F = some (.lst []) := upd_same
      generalize upd H2 F (.lst []) = H5 at R4 eH hD5 hO5 hF5 ⊢
      clear e3 R3 R2 hF hO fO e2 hq hH1 R1 e1
      walk_at "kp"
      refine w_cut (fun σ' H' => ∃ (y6 y7 y8 y9 : Option V) (ws : List V) (lots : List TInt), σ' = [some (.ref a), some (.int n), some (.int m), some (.ref D), some (.ref O), some (.ref F), y6, y7, y8, y9] ∧ Kp [a, b, F] H5 H' ∧ Rng H' a b ∧ H' F = some (.lst ws) ∧ IsAll K H' ws lots ∧ lots.length = m ∧ (∀ t ∈ lots, listB t.items n = true ∧ PathLot A2 ys t)) ?_ ?_
      · walk_at "kp"
        refine w_lpR1 m rfl (by omega) (fun i σ' H' => ∃ (y6 y7 y8 y9 : Option V) (ws : List V) (lots : List TInt), σ' = [some (.ref a), some (.int n), some (.int m), some (.ref D), some (.ref O), some (.ref F), y6, y7, y8, y9] ∧ Kp [a, b, F] H5 H' ∧ Rng H' a b ∧ H' F = some (.lst ws) ∧ IsAll K H' ws lots ∧ lots.length = i ∧ (∀ t ∈ lots, listB t.items n = true ∧ PathLot A2 ys t))
          ⟨_, _, _, _, [], [], rfl, Kp.refl, R4, hF5, .nil, rfl, (fun t ht => by cases ht)⟩ (fun i σ' H1 hi h => ?_) (fun σ' H' h => h)
        obtain ⟨y6, y7, y8, y9, ws, lots, rfl, e6, R6, hF6, h6, hl, hB⟩ := h
        walk_at "kp"
        refine ⟨a, b, n, rfl, R6, by omega, by omega, fun z1 H7 z10 z11 e7 R7 => ?_⟩
        walk_at "kp"
        refine ⟨a, b, (n : Int) + 1, rfl, R7, by omega, by omega, fun z2 H8 z20 z21 e8 R8 => ?_⟩
        walk_at "kp"
        intro p hp
        have R9 := R8.new (o := HO.lst [.int ((i : Int) % n), .int z1, .int ((n : Int) - 1), .int (z2 - 1)]) hp
        have e9 : Kp [a, b] H1 (upd H8 p (.lst [.int ((i : Int) % n), .int z1, .int ((n : Int) - 1), .int (z2 - 1)])) := (e7.trans e8).trans (Kp.new hp)
        refine ⟨a, b, p, _, rfl, R9, SqL.of upd_same, ne_free R8.da hp, ne_free R8.db hp, by simp, by simp, fun i2 v H10 hv e10 R10 => ?_⟩
        have hm1 : 0 ≤ (i : Int) % n := Int.emod_nonneg _ (by omega)
        have hm2 : (i : Int) % n < n := Int.emod_lt_of_pos _ (by omega)
        obtain ⟨c0, rfl, hc0⟩ : ∃ c : Int, v = .int c ∧ -1 ≤ c ∧ c ≤ (n : Int) - 1 := by
          match i2, hv with
          | 0, h => exact ⟨_, (Option.some.inj h).symm, by omega, by omega⟩
          | 1, h => exact ⟨_, (Option.some.inj h).symm, by omega, by omega⟩
          | 2, h => exact ⟨_, (Option.some.inj h).symm, by omega, by omega⟩
          | 3, h => exact ⟨_, (Option.some.inj h).symm, by omega, by omega⟩
          | i + 4, h => simp at h
        walk_at "kp"
        intro L hL
        have R11 := R10.new (o := HO.lst []) hL
        have nLa : L ≠ a := ne_free R10.da hL
        have nLb : L ≠ b := ne_free R10.db hL
        have e11 : Kp [a, b] H1 (upd H10 L (.lst [])) := (e9.trans e10).trans (Kp.new hL)
        have nLF : F ≠ L := ne_of_none ((e9.trans e10).keep _ _ hF6 (by simp [nFa, nFb])) hL
        have e11' : Kp [a, b, F] H5 (upd H10 L (.lst [])) := e6.trans (e11.mono (by simp))
        have e1010 : Kp [a, b, F] H5 H10 := e6.trans ((e9.trans e10).mono (by simp))
        have nLD : D ≠ L := ne_of_none (e1010.keep _ _ hD5 (by simp [nDa, nDb, nDF])) hL
        have nLO : O ≠ L := ne_of_none (e1010.keep _ _ hO5 (by simp [nOa, nOb, nOF])) hL
        have hL5 : H5 L = none := e1010.free hL
        have hLL : (upd H10 L (.lst [])) L = some (.lst []) := upd_same
        have hF11 := e11.keep _ _ hF6 (by simp [nFa, nFb])
        have h11 := h6.kp e11
        walk_at "kp"
        generalize upd H10 L (.lst []) = H11 at R11 e11' hLL hF11 h11 ⊢
        clear e11 e1010 hL R10 e10 R9 hp e9 e8 e7 R8 R7
        have hD11 := e11'.keep _ _ hD5 (by simp [nDa, nDb, nDF])
        have hO11 := e11'.keep _ _ hO5 (by simp [nOa, nOb, nOF])
        refine w_cut (fun σ' H' => ∃ (c : Int) (y9 : Option V) (vis : List Int), σ' = [some (.ref a), some (.int n), some (.int m), some (.ref D), some (.ref O), some (.ref F), some (.int (i : Nat)), some (.int c), some (.ref L), y9] ∧ Kp [L] H11 H' ∧ H' L = some (.lst ((vis.map fun y => ys.getD y.toNat 0).map V.int)) ∧ UpR A2 n n c0 c vis) ?_ ?_
        · walk_at "kp"
          refine w_lpR1 n rfl (by omega) (fun j σ' H' => ∃ (c : Int) (y9 : Option V) (vis : List Int), σ' = [some (.ref a), some (.int n), some (.int m), some (.ref D), some (.ref O), some (.ref F), some (.int (i : Nat)), some (.int c), some (.ref L), y9] ∧ Kp [L] H11 H' ∧ H' L = some (.lst ((vis.map fun y => ys.getD y.toNat 0).map V.int)) ∧ vis.length ≤ j ∧ UpR A2 n j c0 c vis)
            ⟨_, _, [], rfl, Kp.refl, hLL, Nat.le_refl _, UpR.start hc0.1 hc0.2⟩ (fun j σ' H12 hjn h => ?_) (fun σ' H' h => by obtain ⟨c, y9, vis, h1, h2, h3, _, h4⟩ := h; exact ⟨c, y9, vis, h1, h2, h3, h4⟩)
          obtain ⟨c, y9, vis, rfl, e12, hL12, hvl, hu⟩ := h
          have hD12 := e12.keep _ _ hD11 (by simp [nLD])
          have hO12 := e12.keep _ _ hO11 (by simp [nLO])
          walk_at "kp"
          refine w_itD (fun hc => ?_) (fun hc => ?_)
          · have hhi := hu.hi
            have gO : ys[c.toNat]? = some (ys[c.toNat]'(by omega)) := List.getElem?_eq_getElem (by omega)
            have gA : A2[c.toNat]? = some (A2[c.toNat]'(by omega)) := List.getElem?_eq_getElem (by omega)
            have eO : ys.getD c.toNat 0 = ys[c.toNat]'(by omega) := by rw [List.getD_eq_getElem?_getD, gO]; rfl
            have ec : c = ((c.toNat : Nat) : Int) := by omega
            walk_at "kp"
            refine w_bmL hL12 ?_
            walk_at "kp"
            refine w_ixL (SqL.of hO12) (v := .int (ys.getD c.toNat 0)) (by rw [ec]; exact atI_nat (by rw [List.getElem?_map, Int.toNat_natCast, gO, eO]; rfl)) ?_
            walk_at "kp"
            refine w_append hL12 (by rw [sizeLine_eq]; simp; omega) ?_
            walk_at "kp"
            have e13 : Kp [L] H12 (upd H12 L (.lst (((vis.map fun y => ys.getD y.toNat 0).map V.int) ++ [.int (ys.getD c.toNat 0)]))) := Kp.set hL12 rfl (by simp)
            refine w_ixL (SqL.of (e13.keep _ _ hD12 (by simp [nLD]))) (v := .int (A2[c.toNat]'(by omega))) (by rw [show atI (A2.map V.int) c = atI (A2.map V.int) ((c.toNat : Nat) : Int) by rw [← ec]]; exact atI_nat (by rw [List.getElem?_map, gA]; rfl)) ?_
            walk_at "kp"
            exact ⟨_, _, vis ++ [c], rfl, e12.trans e13, by rw [upd_same]; simp, by simp; omega, hu.step hj.2 hc gA⟩
          · walk_at "kp"
            exact ⟨c, _, vis, rfl, e12, hL12, by omega, hu.stay hc hjn⟩
        · rintro σ' H12 ⟨c, y9', vis, rfl, e12, hL12, hu⟩
          walk_at "kp"
          have hF12 := e12.keep _ _ hF11 (by simp [nLF])
          refine w_bmL hF12 ?_
          walk_at "kp"
          have hvl : vis.length ≤ 8 := by
            have : ∀ (l : List Int) (b : Int), (∀ x ∈ l, 0 ≤ x ∧ x < b) → l.Pairwise (· > ·) → (l.length : Int) ≤ max b 0 := fun l => by
              induction l with
              | nil => intro b _ _; simp; omega
              | cons y ys ih =>
                intro b h1 h2
                have hy := h1 y (List.mem_cons_self ..)
                have := ih y (fun x hx => ⟨(h1 x (List.mem_cons_of_mem _ hx)).1, (List.pairwise_cons.mp h2).1 x hx⟩) (List.pairwise_cons.mp h2).2
                rw [List.length_cons]
                omega
            have := this vis n (fun x hx => by have := hu.rng x hx; omega) hu.desc
            omega
          refine ⟨L, _, rfl, SqL.of hL12, by simp; omega, fun zs p2 hzp hzs hp2 => ?_⟩
          obtain ⟨hzb, hzl⟩ := hu.done ylen ynd yr hzp hzs
          walk_at "kp"
          refine w_tupD upd_same (isAll_ints zs) fun vt H13 e13 it => ?_
          have e14 : Kp [] H12 H13 := (Kp.new hp2).trans e13
          have hF13 := e14.keep _ _ hF12 (by simp)
          have h13 := (h11.kp e12).kp e14
          walk_at "kp"
          refine w_append hF13 (by rw [sizeLine_eq, h13.length]; omega) ?_
          walk_at "kp"
          have e15 : Kp [F] H13 (upd H13 F (.lst (ws ++ [vt]))) := Kp.set hF13 rfl (by simp)
          have e16 : Kp [a, b, F] H5 H12 := e11'.hide1 e12 hL5
          refine ⟨_, _, _, _, ws ++ [vt], lots ++ [Tup.mk zs], rfl, (e16.trans e14.wide).trans (e15.mono (by simp)), (((R11.kp e12 (by simp [nLa.symm]) (by simp [nLb.symm])).kp e14 (by simp) (by simp)).kp e15 (by simp [nFa.symm]) (by simp [nFb.symm])), upd_same, (h13.kp e15).append (.cons (it.kp e15) .nil), by simp [hl], fun t ht => ?_⟩
          rcases List.mem_append.mp ht with ht | ht
          · exact hB t ht
          · rw [List.mem_singleton.mp ht]; exact ⟨hzb, hzl⟩
      · rintro σ' H6 ⟨y6, y7, y8, y9, ws, lots, rfl, e6, R6, hF6, h6, hl, hB⟩
        walk_at "kp"
        exact k H6 F ws lots (eH.hide e6 (by simp [hF0])) R6 hF6 h6 hl (fun t ht => (hB t ht).1) (lam_of_paths ynd (fun x y h => h.low hj.2) (fun t ht => (hB t ht).2)) hF0
end
end K85
namespace K85
open PySem PySem.Spec PyProof.Rows L2 KP
open PySem.W (Datum Tup DatumOrd)
open C8 (fnScope fnBody fnArgs fnScope_by)
section
variable {P : Program} {w : World} {K : PySem.W.Frag} {mg : Str → Option Value} {base : Heap} {C_Table C_Refused C_DeskError : Addr}
end
end K85
namespace K85
open PySem PySem.Spec PyProof.Rows L2 KP
open PySem.W (Datum Tup DatumOrd)
open C8 (fnScope fnBody fnArgs fnScope_by)
section
variable {P : Program} {w : World} {K : PySem.W.Frag} {mg : Str → Option Value} {base : Heap} {C_Table C_Refused C_DeskError : Addr}
theorem cal__law_same (T : Txt P K mg C_Table C_Refused C_DeskError) : C8.Cal P w K mg base 1 "_law_same" (spSame K) [] := by
  refine mkCal T.d__law_same sc__law_same (fun vs H Q E h => ?_) (fun f cdv A outer s H vs Q E hr h => ?_)
  · obtain ⟨v, l, ws, x, y, rfl, _⟩ := h; rfl
  · obtain ⟨v, l, ws, x, y, rfl, hv, hl, hw, hy, k⟩ := h
    refine ⟨_, (pss_cons (ps_if (PW.pt (pw_or (pt_not (pt_val (pe_callB (KP.call_isiK' K rfl) rfl T.m_isinstance KP.bt_isinstance (pa_cons (pv 0) (pa_cons (KP.pe_ty rfl T.m_tuple KP.bt_tuple) pa_nil))))) (pw_or1 (pt_cmpR op_ne (pe_callB (KP.cq_lenK K rfl) rfl T.m_len KP.bt_len (pa_cons (pv 0) pa_nil)) (pe_callB (KP.cq_lenK K rfl) rfl T.m_len KP.bt_len (pa_cons (pv 1) pa_nil)) (nomark _)))))
 (pss_one (ps_ret pe_bl))
 pss_nil)
 (C8.pss_cut (ps_for PassesOwn.never rfl (pi_range1 rfl T.m_range (pa_cons (pe_callB (KP.cq_lenK K rfl) rfl T.m_len KP.bt_len (pa_cons (pv 1) pa_nil)) pa_nil)) (pg_name (i := 2) sc__law_same.nd rfl (by first | exact Or.inl rfl | exact Or.inr rfl))
 (pss_cons (ps_if (PW.pt (pw_and (pt_cmp (pc_isN (pe_ix ix_list (pv 1) (pv 2) (fun _ _ => rfl)))) (pw_and1 (pt_cmp (pc_notN (pe_ix (KP.ix_tupK K rfl) (pv 0) (pv 2) (fun _ _ => rfl)))))))
 (pss_one (ps_ret pe_bl))
 pss_nil)
 (pss_one (ps_if (PW.pt (pw_and (pt_cmp (pc_notN (pe_ix ix_list (pv 1) (pv 2) (fun _ _ => rfl)))) (pw_and1 (PW.pt (pw_or (pt_not (pt_val (pe_callB (KP.call_isiK' K rfl) rfl T.m_isinstance KP.bt_isinstance (pa_cons (pe_ix (KP.ix_tupK K rfl) (pv 0) (pv 2) (fun _ _ => rfl)) (pa_cons (KP.pe_ty rfl T.m_int KP.bt_int) pa_nil))))) (pw_or (pt_val (pe_callB (KP.call_isiK' K rfl) rfl T.m_isinstance KP.bt_isinstance (pa_cons (pe_ix (KP.ix_tupK K rfl) (pv 0) (pv 2) (fun _ _ => rfl)) (pa_cons (KP.pe_ty rfl T.m_bool KP.bt_bool) pa_nil)))) (pw_or1 (pt_cmpR op_ne (pe_ix (KP.ix_tupK K rfl) (pv 0) (pv 2) (fun _ _ => rfl)) (pe_ix ix_list (pv 1) (pv 2) (fun _ _ => rfl)) (nomark _)))))))))
 (pss_one (ps_ret pe_bl))
 pss_nil))))
 (pss_one (ps_ret pe_bl)))), ?_⟩
    (simp only [n__law_same, KP.st_cons, KP.st_nilc, KP.st_nil]); (try dsimp only [L2.cxOf, L2.Cx.nox, L2.Cx.wish])
    obtain ⟨p, ps, rfl, hp, hpa⟩ := hv.tupm
    have lps := hpa.length
    have lws := hw.length
    walk_at "kp"
    refine w_isiTT hp ?_
    walk_at "kp"
    refine w_lenT hp ?_
    walk_at "kp"
    refine w_lenL hl ?_
    walk_at "kp"
    refine w_itN (fun hne => ?_) (fun he => ?_)
    · walk_at "kp"
      rw [decide_eq_false (fun e => hne (by rw [lps, lws, e]))] at k
      exact k
    · have he : ((ps.length : Nat) : Int) = ((ws.length : Nat) : Int) := he
      have hxy : x.length = y.length := by omega
      walk_at "kp"
      refine w_cut (fun σ' H' => ∃ y2, σ' = [some (.ref p), some (.ref l), y2] ∧ H' = H ∧ x = y) ?_ ?_
      · walk_at "kp"
        refine w_lenL hl ?_
        refine w_lpR1 ws.length rfl (by omega) (fun i σ' H' => ∃ y2, σ' = [some (.ref p), some (.ref l), y2] ∧ H' = H ∧ x.take i = y.take i) ⟨_, rfl, rfl, rfl⟩ (fun i σ' H1 hi h => ?_) (fun σ' H1 h => ?_)
        · obtain ⟨y2, rfl, rfl, ht⟩ := h
          have gx : x[i]? = some (x[i]'(by omega)) := List.getElem?_eq_getElem (by omega)
          have gy : y[i]? = some (y[i]'(by omega)) := List.getElem?_eq_getElem (by omega)
          obtain ⟨a, ha, ia⟩ := hpa.get' gx
          obtain ⟨b, hb, ib⟩ := hw.get' gy
          have hd : x[i]'(by omega) ≠ y[i]'(by omega) → decide (x = y) = false := fun hne => decide_eq_false fun e => hne (by
            have : x[i]? = y[i]? := by rw [e]
            rw [gx, gy] at this
            exact Option.some.inj this)
          have hs : x[i]'(by omega) = y[i]'(by omega) → x.take (i + 1) = y.take (i + 1) := fun e => (KP.take_eq gx gy).mpr ⟨ht, e⟩
          walk_at "kp"
          refine w_ixL hl (atI_nat hb) ?_
          rcases ib.opt with ⟨rfl, eb⟩ | ⟨ib', rfl, eb⟩
          · walk_at "kp"
            refine w_ixT hp (atI_nat ha) ?_
            walk_at "kp"
            rcases ia.opt with ⟨rfl, ea⟩ | ⟨ia', rfl, ea⟩
            · walk_at "kp"
              refine w_ixL hl (atI_nat hb) ?_
              walk_at "kp"
              exact ⟨_, rfl, rfl, hs (by rw [ea, eb])⟩
            · walk_at "kp"
              rw [hd (by rw [ea, eb]; simp)] at k
              exact k
          · walk_at "kp"
            refine w_ixL hl (atI_nat hb) ?_
            walk_at "kp"
            refine w_ixT hp (atI_nat ha) ?_
            walk_at "kp"
            rcases ia.opt with ⟨rfl, ea⟩ | ⟨ia', rfl, ea⟩
            · refine w_isiNI ?_
              walk_at "kp"
              rw [hd (by rw [ea, eb]; simp)] at k
              exact k
            · walk_at "kp"
              refine w_ixT hp (atI_nat ha) ?_
              walk_at "kp"
              refine w_ixT hp (atI_nat ha) ?_
              walk_at "kp"
              refine w_ixL hl (atI_nat hb) ?_
              walk_at "kp"
              refine w_itN (fun hne => ?_) (fun he => ?_)
              · walk_at "kp"
                rw [hd (by rw [ea, eb]; intro e; exact hne (Option.some.inj e))] at k
                exact k
              · walk_at "kp"
                have he : ia' = ib' := he
                exact ⟨_, rfl, rfl, hs (by rw [ea, eb, he])⟩
        · obtain ⟨y2, rfl, rfl, ht⟩ := h
          rw [List.take_of_length_le (by omega), List.take_of_length_le (by omega)] at ht
          exact ⟨_, rfl, rfl, ht⟩
      · rintro σ' H1 ⟨y2, rfl, rfl, e⟩
        walk_at "kp"
        rw [decide_eq_true e] at k
        exact k
end
end K85
namespace K85
open PySem PySem.Spec PyProof.Rows L2 KP
open PySem.W (Datum Tup DatumOrd)
open C8 (fnScope fnBody fnArgs fnScope_by)
section
variable {P : Program} {w : World} {K : PySem.W.Frag} {mg : Str → Option Value} {base : Heap} {C_Table C_Refused C_DeskError : Addr}
theorem cal_accepted (T : Txt P K mg C_Table C_Refused C_DeskError) : C8.Cal P w K mg base 1 "accepted" (spAcc K C_Table) [] := by
  refine mkCal T.d_accepted sc_accepted (fun vs H Q E h => ?_) (fun f cdv A outer s H vs Q E hr h => ?_)
  · obtain ⟨t, kn, types, r, p, rfl, _⟩ := h; rfl
  · obtain ⟨t, kn, types, r, p, rfl, ⟨⟨dx, vk, vt, ht, hk, hv⟩, ok⟩, hp, k⟩ := h
    refine ⟨_, (pss_one (ps_ret (pe_ix (KP.ix_tupK K rfl) (pe_ix (KP.ix_tupK K rfl) (KP.pe_fldK K rfl (pv 0) rfl) (pv 1) (fun _ _ => rfl)) pe_int (fun _ _ => rfl)))), ?_⟩
    (simp only [n_accepted, KP.st_cons, KP.st_nilc, KP.st_nil]); (try dsimp only [L2.cxOf, L2.Cx.nox, L2.Cx.wish])
    obtain ⟨q, qs, rfl, hq, hqa⟩ := hv.tupm
    obtain ⟨x, hx, ix⟩ := hqa.get' hp
    obtain ⟨z, u, ww, rfl, hz, iu, iw⟩ := ix.pair
    walk_at "kp"
    refine w_fldV ht T.cl_Table T.na_Table_types (tf_t _ _) ?_
    walk_at "kp"
    refine w_ixT hq (atI_nat hx) ?_
    walk_at "kp"
    refine w_ixT hz (by rfl) ?_
    exact k _ iw
theorem cal_takers (T : Txt P K mg C_Table C_Refused C_DeskError) : C8.Cal P w K mg base 1 "takers" (spTak K C_Table) [] := by
  refine mkCal T.d_takers sc_takers (fun vs H Q E h => ?_) (fun f cdv A outer s H vs Q E hr h => ?_)
  · obtain ⟨t, kn, types, kd, rfl, _⟩ := h; rfl
  · obtain ⟨t, kn, types, kd, rfl, ⟨⟨dx, vk, vt, ht, hk, hv⟩, ok⟩, k⟩ := h
    refine ⟨_, (pss_one (ps_ret (pe_callTy (KP.cq_tupleK K rfl) rfl T.m_tuple KP.bt_tuple (pa_cons (pe_lc (own := [("number", 2), ("name", 3), ("lot", 4)]) rfl sc_takers.nd (KP.pi_enumTK K rfl rfl T.m_enumerate (pa_cons (KP.pe_fldK K rfl (pv 0) rfl) pa_nil))
 (blkOk_by (N := n_takers) (sc := fnScope s_takers) (by decide +kernel)) (fun _ _ _ _ _ => (KP.pg_tupK (n := 2) K rfl rfl (pgs_cons (pg_name (i := 2) sc_takers.nd rfl (by first | exact Or.inl rfl | exact Or.inr rfl)) (pgs_cons (KP.pg_tupK (n := 2) K rfl rfl (pgs_cons (pg_name (i := 3) sc_takers.nd rfl (by first | exact Or.inl rfl | exact Or.inr rfl)) (pgs_cons (pg_name (i := 4) sc_takers.nd rfl (by first | exact Or.inl rfl | exact Or.inr rfl)) pgs_nil))) pgs_nil)))) (fun _ _ _ _ _ => (pts_one (pt_cmpR (KP.op_inXK K rfl hr.units) (pv 1) (pv 4) rfl))) (fun _ _ _ _ _ => (pv 2))) pa_nil)))), ?_⟩
    (simp only [n_takers, KP.st_cons, KP.st_nilc, KP.st_nil]); (try dsimp only [L2.cxOf, L2.Cx.nox, L2.Cx.wish])
    obtain ⟨q, qs, rfl, hq, hqa⟩ := hv.tupm
    have lqs := hqa.length
    have ok2 := ok.t2
    walk_at "kp"
    refine w_fldV ht T.cl_Table T.na_Table_types (tf_t _ _) ?_
    walk_at "kp"
    refine w_lcETV hq Int [] (fun _ => True) (fun i acc => acc = nI ((List.range i).filter fun i => decide (kd ∈ (lotsOf types).getD i []))) (by omega) (by simp) True.intro (fun _ _ _ _ _ => True.intro) rfl (fun i x acc H1 T1 QE QF hx e1 _ hj hl1 hT kE kF => ?_) ?_
    · obtain ⟨p, hp, ip⟩ := hqa.get hx
      have e2 : Kp [] H1 (upd H1 T1 (.tup [.int (i : Nat), x])) := Kp.new hT
      obtain ⟨z, u, ww, rfl, hz, iu, iw⟩ := ((ip.kp e1).kp e2).pair
      have iw : Is K _ ww p.2 := iw
      obtain ⟨lot, lws, rfl, hlot, hla⟩ := iw.tup
      refine w_gTup (SqT.of upd_same) rfl ?_
      walk_at "kp"
      refine w_gTup hz rfl ?_
      walk_at "kp"
      refine ⟨rfl, ?_⟩
      walk_at "kp"
      refine ⟨Int, inferInstance, inferInstance, kd, p.2.items, lot, lws, rfl, .inr hlot, hla, is_int _, by decide, ?_⟩
      have eg : (lotsOf types).getD i [] = p.2.items := by
        unfold lotsOf
        rw [List.getD_eq_getElem?_getD, List.getElem?_map, hp]
        rfl
      walk_at "kp"
      refine w_itD (fun hm => ?_) (fun hm => ?_)
      · walk_at "kp"
        refine kE _ (i : Int) _ e2 True.intro (is_int _) ?_
        rw [hj, List.range_succ, List.filter_append]
        simp only [List.filter_cons, List.filter_nil, eg, decide_eq_true hm, if_true]
        simp [nI]
      · refine kF _ e2 True.intro ?_
        rw [hj, List.range_succ, List.filter_append]
        simp only [List.filter_cons, List.filter_nil, eg, decide_eq_false hm]
        simp
    · intro D ws ys H1 hD e1 _ hj hlen hall hH1
      walk_at "kp"
      refine w_tupD hH1 hall fun v H2 e2 iv => ?_
      have : ys = takersI (lotsOf types) kd := by rw [hj, lqs]; unfold takersI takersN; rw [show (lotsOf types).length = types.length by simp [lotsOf]]
      rw [this] at iv
      exact k v H2 (e1.trans e2) iv
end
end K85
namespace K85
open PySem PySem.Spec PyProof.Rows L2 KP
open PySem.W (Datum Tup DatumOrd)
open C8 (fnScope fnBody fnArgs fnScope_by)
section
variable {P : Program} {w : World} {K : PySem.W.Frag} {mg : Str → Option Value} {base : Heap} {C_Table C_Refused C_DeskError : Addr}
theorem cal__law_start (T : Txt P K mg C_Table C_Refused C_DeskError) : C8.Cal P w K mg base 1 "_law_start" (spStart K) [] := by
  refine mkCal T.d__law_start sc__law_start (fun vs H Q E h => ?_) (fun f cdv A outer s H vs Q E hr h => ?_)
  · obtain ⟨l, p, ws, stock, rfl, _⟩ := h; rfl
  · obtain ⟨l, p, ws, stock, rfl, hl, hwl, hst, hsl, k⟩ := h
    refine ⟨_, (pss_one (ps_ret (pe_lst (pa_cons (pe_callTy (KP.cq_listK K rfl) rfl T.m_list KP.bt_list (pa_cons (pv 1) pa_nil)) (pa_cons (pe_lc (own := [("lot", 2)]) rfl sc__law_start.nd (KP.pi_listK K rfl (pv 0))
 (blkOk_by (N := n__law_start) (sc := fnScope s__law_start) (by decide +kernel)) (fun _ _ _ _ _ => (pg_name (i := 2) sc__law_start.nd rfl (by first | exact Or.inl rfl | exact Or.inr rfl))) (fun _ _ _ _ _ => pts_nil) (fun _ _ _ _ _ => (pe_op op_rep (pe_lst (pa_cons pe_int pa_nil)) (pe_callB (KP.cq_lenK K rfl) rfl T.m_len KP.bt_len (pa_cons (pv 1) pa_nil))))) pa_nil))))), ?_⟩
    (simp only [n__law_start, KP.st_cons, KP.st_nilc, KP.st_nil]); (try dsimp only [L2.cxOf, L2.Cx.nox, L2.Cx.wish])
    walk_at "kp"
    refine w_listQ hst fun L hL => ?_
    walk_at "kp"
    have e1 : Kp [] H (upd H L (.lst (stock.map V.int))) := Kp.new hL
    refine w_lcLRaw (e1.sqL hl (by simp)) (fun D i H' => ∃ gs : List Addr, gs.length = i ∧ H' D = some (.lst (gs.map V.ref)) ∧ (∀ a ∈ gs, H' a = some (.lst ((List.replicate stock.length (0 : Int)).map V.int)) ∧ H a = none ∧ a ≠ D ∧ a ≠ L) ∧ gs.Nodup ∧ Kp [] H H' ∧ H' L = some (.lst (stock.map V.int)) ∧ D ≠ L ∧ H D = none)
      (fun D hD => ⟨[], rfl, upd_same, (fun a ha => by cases ha), .nil, e1.trans (Kp.new hD), by rw [upd_ne (ne_of_none upd_same hD)]; exact upd_same, (ne_of_none upd_same hD).symm, e1.free hD⟩)
      (fun D i H' h => by obtain ⟨_, _, _, _, _, e, _⟩ := h; exact e.sqL hl (by simp)) (fun D i x H1 hx h => ?_) (fun D H' h => ?_)
    · obtain ⟨gs, hgl, hD, hgs, hnd, e, hL1, nDL, hD0⟩ := h
      walk_at "kp"
      refine ⟨rfl, ?_⟩
      walk_at "kp"
      intro q hq
      walk_at "kp"
      have e2 : Kp [] H1 (upd H1 q (.lst [.int 0])) := Kp.new hq
      refine w_lenQ (by rcases hst with h | h; exact .inl ((e.trans e2).sqL h (by simp)); exact .inr ((e.trans e2).sqT h)) ?_
      rw [List.length_map]
      refine ⟨q, (stock.length : Nat), [.int 0], rfl, rfl, upd_same, by omega, by omega, by rw [sizeLine_eq]; simp; omega, fun q2 hq2 => ?_⟩
      have hrep : (List.replicate ((stock.length : Nat) : Int).toNat [V.int 0]).flatten = (List.replicate stock.length (0 : Int)).map V.int := by
        rw [Int.toNat_natCast, List.map_replicate]
        generalize stock.length = c
        induction c with
        | zero => rfl
        | succ r ih => rw [List.replicate_succ, List.flatten_cons, ih, List.replicate_succ]; rfl
      rw [hrep]
      have e3 : Kp [] H1 (upd (upd H1 q (.lst [.int 0])) q2 (.lst ((List.replicate stock.length (0 : Int)).map V.int))) := e2.trans (Kp.new hq2)
      have hD2 := e3.keep _ _ hD (by simp)
      have hq1 : H1 q2 = none := e2.free hq2
      have nq2D : q2 ≠ D := fun c => by rw [c, hD] at hq1; cases hq1
      have nq2L : q2 ≠ L := fun c => by rw [c, hL1] at hq1; cases hq1
      refine ⟨_, hD2, by rw [sizeLine_eq, List.length_map]; have := (List.getElem?_eq_some_iff.mp hx).1; omega, gs ++ [q2], by simp [hgl], by rw [upd_same]; simp, fun a ha => ?_, ?_, (e.trans e3).mut hD0, by rw [upd_ne nDL.symm]; exact e3.keep _ _ hL1 (by simp), nDL, hD0⟩
      · rcases List.mem_append.mp ha with ha | ha
        · obtain ⟨g1, g2, g3, g4⟩ := hgs a ha
          exact ⟨by rw [upd_ne g3]; exact e3.keep _ _ g1 (by simp), g2, g3, g4⟩
        · rw [List.mem_singleton.mp ha]
          exact ⟨by rw [upd_ne nq2D]; exact upd_same, e.free hq1, nq2D, nq2L⟩
      · refine List.nodup_append.mpr ⟨hnd, by simp, fun x hx y hy => ?_⟩
        rw [List.mem_singleton.mp hy]
        intro c
        rw [c] at hx
        have := (hgs q2 hx).1
        rw [hq1] at this
        cases this
    · obtain ⟨gs, hgl, hD, hgs, hnd, e, hL1, nDL, hD0⟩ := h
      walk_at "kp"
      intro S hS
      have nSL : L ≠ S := ne_of_none hL1 hS
      have nSD : D ≠ S := ne_of_none hD hS
      have nSg : ∀ a ∈ gs, a ≠ S := fun a ha => ne_of_none (hgs a ha).1 hS
      have hS0 : H S = none := e.free hS
      refine k _ S L D gs (e.trans (Kp.new hS)) ⟨upd_same, by rw [upd_ne nSL]; exact hL1, by rw [upd_ne nSD]; exact hD, by rw [List.length_replicate, hgl], fun i a ha => ⟨List.replicate stock.length 0, ?_, by rw [List.length_replicate], ?_⟩, ?_⟩ (fun x hx => ?_)
      · have := (List.getElem?_eq_some_iff.mp ha).1
        rw [List.getElem?_replicate, if_pos (by omega)]
      · have := List.mem_of_getElem? ha
        rw [upd_ne (nSg a this)]
        exact (hgs a this).1
      · refine List.nodup_cons.mpr ⟨fun m => ?_, List.nodup_cons.mpr ⟨fun m => ?_, List.nodup_cons.mpr ⟨fun m => (hgs D m).2.2.1 rfl, hnd⟩⟩⟩
        · rcases List.mem_cons.mp m with m | m
          · exact nSL m.symm
          · rcases List.mem_cons.mp m with m | m
            · exact nSD m.symm
            · exact nSg S m rfl
        · rcases List.mem_cons.mp m with m | m
          · exact nDL m.symm
          · exact (hgs L m).2.2.2 rfl
      · rcases List.mem_cons.mp hx with m | hx
        · rw [m]; exact hS0
        · rcases List.mem_cons.mp hx with m | hx
          · rw [m]; exact hL
          · rcases List.mem_cons.mp hx with m | hx
            · rw [m]; exact hD0
            · exact (hgs x hx).2.1
end
end K85
namespace K85
open PySem PySem.Spec PyProof.Rows L2 KP
open PySem.W (Datum Tup DatumOrd)
open C8 (fnScope fnBody fnArgs fnScope_by)
section
variable {P : Program} {w : World} {K : PySem.W.Frag} {mg : Str → Option Value} {base : Heap} {C_Table C_Refused C_DeskError : Addr}
end
open FL
/-- where the search stands -/
structure WS (H H' : Hp) (C O Rw : Addr) (m n : Nat) (acc : Nat → Nat → Prop) (g : Nat → Nat → Int) (start : Nat) (cs hs : List (Nat × Nat)) (row : List Nat) : Prop where
  e : Kp [] H H'
  hC : H' C = some (.dK (dI cs))
  hO : H' O = some (.dK (dI hs))
  hR : H' Rw = some (.lst ((nI row).map V.int))
  b : BV m n acc g start cs hs
  q : ∀ u ∈ row, u ∈ start :: hs.map Prod.fst
theorem WS.kp {H H' H2 : Hp} {C O Rw : Addr} {m n : Nat} {acc : Nat → Nat → Prop} {g : Nat → Nat → Int} {start : Nat} {cs hs : List (Nat × Nat)} {row : List Nat} (w : WS H H' C O Rw m n acc g start cs hs row) (k : Kp [] H' H2) : WS H H2 C O Rw m n acc g start cs hs row :=
  ⟨w.e.trans k, k.keep _ _ w.hC (by simp), k.keep _ _ w.hO (by simp), k.keep _ _ w.hR (by simp), w.b, w.q⟩
theorem accL_of {lots : List (List Int)} {u : Nat} {t : List Int} {j : Nat} {k : Int} (hu : lots[u]? = some t) (hj : t[j]? = some k) (h0 : 0 ≤ k) : accL lots u k.toNat := by
  unfold accL
  rw [List.getD_eq_getElem?_getD, hu, Int.toNat_of_nonneg h0]
  exact List.mem_of_getElem? hj
theorem nI_cons (u : Nat) (r : List Nat) : (nI (u :: r)).map V.int = V.int u :: (nI r).map V.int := rfl
section
variable {P : Program} {w : World} {K : PySem.W.Frag} {mg : Str → Option Value} {base : Heap} {C_Table C_Refused C_DeskError : Addr}
set_option maxHeartbeats 4000000 in
theorem cal__law_way (T : Txt P K mg C_Table C_Refused C_DeskError) : C8.Cal P w K mg base 1 "_law_way" (spWay K) [] := by
  refine mkCal T.d__law_way sc__law_way (fun vs H Q E h => ?_) (fun f cdv A outer s H vs Q E hr h => ?_)
  · obtain ⟨l, S, L, G, gs, lots, left, gives, r, rfl, _⟩ := h; rfl
  · obtain ⟨l, S, L, G, gs, lots, left, gives, r, rfl, W, hr0, kN, kW⟩ := h
    refine ⟨_, (pss_cons (ps_asg (pv 1) (KP.pg_unlK (n := 2) K rfl rfl (pgs_cons (pg_name (i := 3) sc__law_way.nd rfl (by first | exact Or.inl rfl | exact Or.inr rfl)) (pgs_cons (pg_name (i := 4) sc__law_way.nd rfl (by first | exact Or.inl rfl | exact Or.inr rfl)) pgs_nil))))
 (pss_cons (ps_par3 (i := 5) (j := 6) (l := 7) rfl sc__law_way.nd rfl rfl rfl (by decide) (by decide) (by decide) rfl rfl rfl (pa_cons pe_dnewK (pa_cons pe_dnewK (pa_cons (pe_lst (pa_cons (pv 2) pa_nil)) pa_nil))) rfl)
 (C8.pss_cut (ps_while PassesOwn.never (pt_cmpR (KP.op_neXK K rfl hr.units) (pv 7) (pe_lst pa_nil) (nomark _))
 (pss_cons (ps_set (i := 8) sc__law_way.nd rfl (by first | exact Or.inl rfl | exact Or.inr rfl) (KP.pe_bmK K rfl PySem.F.plainAttrs_list PySem.F.slot_list_pop PySem.F.type_list_pop mt_popAt (pv 7) (pa_cons pe_int pa_nil)))
 (pss_one (ps_for PassesOwn.never rfl (KP.pi_tupK K rfl (pe_ix (KP.ix_listK K rfl) (pv 0) (pv 8) (fun _ _ => rfl))) (pg_name (i := 9) sc__law_way.nd rfl (by first | exact Or.inl rfl | exact Or.inr rfl))
 (pss_one (ps_if (pt_cmp (pc_dnotin (hu_of hr) (pv 9) (pv 5)))
 (pss_cons (ps_dput (hu_of hr) (pv 5) (pv 9) (pv 8) rfl)
 (pss_cons (ps_if (pt_cmpR op_gt (pe_ix (KP.ix_listK K rfl) (pv 3) (pv 9) (fun _ _ => rfl)) pe_int (nomark _))
 (pss_cons (ps_set (i := 10) sc__law_way.nd rfl (by first | exact Or.inl rfl | exact Or.inr rfl) (pe_lst (pa_cons (pe_tup (pa_cons (pv 8) (pa_cons (pv 9) pa_nil))) pa_nil)))
 (C8.pss_cut (ps_while PassesOwn.never (pt_cmpR op_ne (pe_ix (KP.ix_tupK K rfl) (pe_ix (KP.ix_listK K rfl) (pv 10) pe_int (fun _ _ => rfl)) pe_int (fun _ _ => rfl)) (pv 2) (nomark _))
 (pss_cons (ps_set (i := 11) sc__law_way.nd rfl (by first | exact Or.inl rfl | exact Or.inr rfl) (pe_dget (hu_of hr) (pv 6) (pe_ix (KP.ix_tupK K rfl) (pe_ix (KP.ix_listK K rfl) (pv 10) pe_int (fun _ _ => rfl)) pe_int (fun _ _ => rfl)) (fun _ _ => rfl)))
 (pss_one (ps_set (i := 10) sc__law_way.nd rfl (by first | exact Or.inl rfl | exact Or.inr rfl) (pe_op op_cat (pe_lst (pa_cons (pe_tup (pa_cons (pe_dget (hu_of hr) (pv 5) (pv 11) (fun _ _ => rfl)) (pa_cons (pv 11) pa_nil))) pa_nil)) (pv 10))))))
 (pss_one (ps_ret (pv 10)))))
 pss_nil)
 (pss_one (ps_for PassesOwn.never rfl (pi_range1 rfl T.m_range (pa_cons (pe_callB (KP.cq_lenK K rfl) rfl T.m_len KP.bt_len (pa_cons (pv 0) pa_nil)) pa_nil)) (pg_name (i := 12) sc__law_way.nd rfl (by first | exact Or.inl rfl | exact Or.inr rfl))
 (pss_one (ps_if (PW.pt (pw_and (pt_cmpR op_gt (pe_ix (KP.ix_listK K rfl) (pe_ix (KP.ix_listK K rfl) (pv 4) (pv 12) (fun _ _ => rfl)) (pv 9) (fun _ _ => rfl)) pe_int (nomark _)) (pw_and (pt_cmpR op_ne (pv 12) (pv 2) (nomark _)) (pw_and1 (pt_cmp (pc_dnotin (hu_of hr) (pv 12) (pv 6)))))))
 (pss_cons (ps_dput (hu_of hr) (pv 6) (pv 12) (pv 9) rfl)
 (pss_one (ps_expr (KP.pe_bmK K rfl PySem.F.plainAttrs_list PySem.F.slot_list_append PySem.F.type_list_append mt_append (pv 7) (pa_cons (pv 12) pa_nil)))))
 pss_nil))))))
 pss_nil))))))
 (pss_one (ps_ret pe_non))))), ?_⟩
    (simp only [n__law_way, KP.st_cons, KP.st_nilc, KP.st_nil]); (try dsimp only [L2.cxOf, L2.Cx.nox, L2.Cx.wish])
    obtain ⟨lws, hlw, hla⟩ := W.lt
    have hlwl : lws.length = lots.length := by rw [hla.length]; simp [tups]
    have Wm1 := W.m1
    have Wn1 := W.n1
    have Wml := W.ml
    have Wst := W.st
    walk_at "kp"
    refine w_gUnl (SqL.of Wst.hS) rfl ?_
    walk_at "kp"
    intro C hC
    walk_at "kp"
    intro O hO
    walk_at "kp"
    intro Rw hRw
    have nCO : C ≠ O := ne_of_none upd_same hO
    have nOR : O ≠ Rw := ne_of_none upd_same hRw
    have nCR : C ≠ Rw := ne_of_none (by rw [upd_ne nCO]; exact upd_same) hRw
    have e3 : Kp [] H (upd (upd (upd H C (.dK [])) O (.dK [])) Rw (.lst [.int r])) := ((Kp.new hC).trans (Kp.new hO)).trans (Kp.new hRw)
    have hO0 : H O = none := (Kp.new (M := []) hC).free hO
    have hRw0 : H Rw = none := ((Kp.new (M := []) hC).trans (Kp.new hO)).free hRw
    have I0 : WS H (upd (upd (upd H C (.dK [])) O (.dK [])) Rw (.lst [.int r])) C O Rw lots.length left.length (accL lots) (gG gives) r [] [] [r] :=
      ⟨e3, by rw [upd_ne nCR, upd_ne nCO]; exact upd_same, by rw [upd_ne nOR]; exact upd_same, upd_same, BV.init hr0, by simp⟩
    generalize upd (upd (upd H C (.dK [])) O (.dK [])) Rw (.lst [.int r]) = H3 at I0 ⊢
    clear e3 hRw hO
    walk_at "kp"
    refine w_cut (fun σ' H' => ∃ (y8 y9 y10 y11 y12 : Option V) (cs hs : List (Nat × Nat)), σ' = [some (.ref l), some (.ref S), some (.int r), some (.ref L), some (.ref G), some (.ref C), some (.ref O), some (.ref Rw), y8, y9, y10, y11, y12] ∧ WS H H' C O Rw lots.length left.length (accL lots) (gG gives) r cs hs [] ∧ (∀ u ∈ r :: hs.map Prod.fst, ∀ k, k < left.length → accL lots u k → k ∈ cs.map Prod.fst) ∧ (∀ k ∈ cs.map Prod.fst, KDone lots.length (gG gives) (gD left) r hs k)) ?_ ?_
    · refine w_whileQ (fun mm σ' H' => ∃ (y8 y9 y10 y11 y12 : Option V) (cs hs : List (Nat × Nat)) (row : List Nat), mm = 2 * (lots.length - hs.length) + row.length ∧ mm ≤ 2 * lots.length + 1 ∧ σ' = [some (.ref l), some (.ref S), some (.int r), some (.ref L), some (.ref G), some (.ref C), some (.ref O), some (.ref Rw), y8, y9, y10, y11, y12] ∧ WS H H' C O Rw lots.length left.length (accL lots) (gG gives) r cs hs row ∧ (∀ u ∈ r :: hs.map Prod.fst, u ∉ row → ∀ k, k < left.length → accL lots u k → k ∈ cs.map Prod.fst) ∧ (∀ k ∈ cs.map Prod.fst, KDone lots.length (gG gives) (gD left) r hs k))
        _ ⟨none, none, none, none, none, [], [], [r], rfl, by simp, rfl, I0, (fun u hu hn => absurd (by simpa using hu) (by simpa using hn)), (fun k hk => by cases hk)⟩ ?_
      rintro mm σ' H4 Qt ⟨y8, y9, y10, y11, y12, cs, hs, row, rfl, hm0, rfl, I, p1, p2⟩ qT qF
      walk_at "kp"
      intro z hz
      have ez : Kp [] H4 (upd H4 z (.lst [])) := Kp.new hz
      have I := I.kp ez
      refine w_neNil (SqL.of I.hR) upd_same ?_
      walk_at "kp"
      generalize upd H4 z (.lst []) = H5 at I ⊢
      clear ez hz
      cases row with
      | nil =>
        rw [show decide (nI [] = []) = true from rfl]
        refine qF _ ⟨y8, y9, y10, y11, y12, cs, hs, rfl, I, fun u hu => p1 u hu (by simp), p2⟩
      | cons u0 row =>
        rw [show decide (nI (u0 :: row) = []) = false from rfl]
        refine qT _ ?_
        have hu0v := I.q u0 (List.mem_cons_self ..)
        have hu0 : u0 < lots.length := I.b.v1b u0 hu0v
        walk_at "kp"
        refine w_bmL I.hR ?_
        walk_at "kp"
        refine ⟨Rw, _, 0, 0, .int u0, rfl, rfl, I.hR, by decide, by decide, by rw [seqIx (by decide) (by rw [nI_cons]; simp)]; rfl, rfl, ?_⟩
        rw [nI_cons, List.eraseIdx_cons_zero]
        have I : WS H (upd H5 Rw (.lst ((nI row).map V.int))) C O Rw lots.length left.length (accL lots) (gG gives) r cs hs row :=
          ⟨I.e.mut hRw0, by rw [upd_ne nCR]; exact I.hC, by rw [upd_ne nOR]; exact I.hO, upd_same, I.b, fun u hu => I.q u (List.mem_cons_of_mem _ hu)⟩
        generalize upd H5 Rw (.lst ((nI row).map V.int)) = H6 at I ⊢
        walk_at "kp"
        have gl : lots[u0]? = some (lots[u0]'hu0) := List.getElem?_eq_getElem hu0
        obtain ⟨lot, hlot⟩ : ∃ lot, lot = lots[u0]'hu0 := ⟨_, rfl⟩
        rw [← hlot] at gl
        have lotm : lot ∈ lots := by rw [hlot]; exact List.getElem_mem _
        obtain ⟨tv, htv, itv⟩ := hla.get' (i := u0) (x := Tup.mk lot) (by unfold tups; rw [List.getElem?_map, gl]; rfl)
        obtain ⟨ta, tws, rfl, hta, htaa⟩ := itv.tup
        have := htaa.ints
        subst this
        have htaE : ∀ {H7 : Hp}, Kp [] H H7 → SqT K H7 ta (lot.map V.int) := fun e => e.sqT hta
        refine w_ixL (I.e.sqL hlw (by simp)) (atI_nat htv) ?_
        obtain ⟨mm, hmm⟩ : ∃ mm, mm = 2 * (lots.length - hs.length) + (u0 :: row).length := ⟨_, rfl⟩
        rw [← hmm] at hm0 ⊢
        have hhl := I.b.len
        refine w_lpT (htaE I.e) (fun j σ' H' => ∃ (y9 y10 y11 y12 : Option V) (cs hs : List (Nat × Nat)) (row' : List Nat), σ' = [some (.ref l), some (.ref S), some (.int r), some (.ref L), some (.ref G), some (.ref C), some (.ref O), some (.ref Rw), some (.int u0), y9, y10, y11, y12] ∧ WS H H' C O Rw lots.length left.length (accL lots) (gG gives) r cs hs row' ∧ u0 ∈ r :: hs.map Prod.fst ∧ 2 * (lots.length - hs.length) + row'.length + 1 ≤ mm ∧ (∀ u ∈ r :: hs.map Prod.fst, u ∉ row' → u ≠ u0 → ∀ k, k < left.length → accL lots u k → k ∈ cs.map Prod.fst) ∧ (∀ k ∈ cs.map Prod.fst, KDone lots.length (gG gives) (gD left) r hs k) ∧ (∀ k ∈ lot.take j, k.toNat ∈ cs.map Prod.fst) ∧ True)
          ⟨_, _, _, _, cs, hs, row, rfl, I, hu0v, by rw [hmm, List.length_cons]; omega, (fun u hu hn hne => p1 u hu (by simp [hn, hne])), p2, (fun k hk => by simp at hk), trivial⟩ (fun j σ' H7 _ h => by obtain ⟨_, _, _, _, _, _, _, _, I, _⟩ := h; exact htaE I.e) (fun j x σ' H7 hx h => ?_) (fun σ' H7 h => ?_)
        · obtain ⟨y9, y10, y11, y12, cs, hs, row', rfl, I, hu0v, hms, p1, p2, p3, _⟩ := h
          obtain ⟨kd, rfl, hkd⟩ := int_at' hx
          have hkr := W.ok lot lotm kd (List.mem_of_getElem? hkd)
          have eacc := accL_of gl hkd hkr.1
          obtain ⟨k, rfl⟩ : ∃ k : Nat, kd = (k : Int) := ⟨kd.toNat, by omega⟩
          rw [Int.toNat_natCast] at eacc
          have hkn : k < left.length := by omega
          have et : lot.take (j + 1) = lot.take j ++ [(k : Int)] := by rw [List.take_add_one, hkd]; rfl
          have p3' : ∀ cs' : List (Nat × Nat), (∀ k' ∈ cs.map Prod.fst, k' ∈ cs'.map Prod.fst) → k ∈ cs'.map Prod.fst → ∀ k' ∈ lot.take (j + 1), k'.toNat ∈ cs'.map Prod.fst := fun cs' h1 h2 k' hk' => by
            rw [et] at hk'
            rcases List.mem_append.mp hk' with hk' | hk'
            · exact h1 _ (p3 k' hk')
            · rw [List.mem_singleton.mp hk', Int.toNat_natCast]; exact h2
          have hcl := I.b.clen
          walk_at "kp"
          refine w_dinI I.hC I.b.v2 ?_
          walk_at "kp"
          by_cases hk : k ∈ cs.map Prod.fst
          · rw [decide_eq_true hk]
            walk_at "kp"
            exact ⟨_, _, _, _, cs, hs, row', rfl, I, hu0v, hms, p1, p2, p3' cs (fun _ h => h) hk, trivial⟩
          · rw [decide_eq_false hk]
            walk_at "kp"
            refine w_dputI I.hC hk (by omega) ?_
            have hcs : ∀ k' ∈ cs.map Prod.fst, k' ∈ (cs ++ [(k, u0)]).map Prod.fst := fun k' h => by rw [List.map_append]; exact List.mem_append_left _ h
            have hkc : k ∈ (cs ++ [(k, u0)]).map Prod.fst := by simp
            have I2 : WS H (upd H7 C (.dK (dI (cs ++ [(k, u0)])))) C O Rw lots.length left.length (accL lots) (gG gives) r (cs ++ [(k, u0)]) hs row' :=
              ⟨I.e.mut hC, upd_same, by rw [upd_ne nCO.symm]; exact I.hO, by rw [upd_ne nCR.symm]; exact I.hR, I.b.come hkn hk hu0v eacc, I.q⟩
            generalize upd H7 C (.dK (dI (cs ++ [(k, u0)]))) = H8 at I2 ⊢
            obtain ⟨z, hz, _, hza⟩ := int_idx (xs := left) (z := (k : Int)) (by omega) (by omega)
            rw [Int.toNat_natCast] at hz
            have hzg : gD left k = z := gD_get hz
            walk_at "kp"
            refine w_ixL (SqL.of (Wst.kp I2.e (by simp)).hL) hza ?_
            walk_at "kp"
            refine w_itD (fun hpos => ?_) (fun hpos => ?_)
            · walk_at "kp"
              intro t1 ht1
              have e9 : Kp [] H8 (upd H8 t1 (.tup [.int u0, .int k])) := Kp.new ht1
              have it1 : Is K (upd H8 t1 (.tup [.int u0, .int k])) (.ref t1) (((u0 : Int), (k : Int)) : Int × Int) := is_pair (SqT.of upd_same) (is_int _) (is_int _)
              have I3 := I2.kp e9
              generalize upd H8 t1 (.tup [.int u0, .int k]) = H9 at I3 it1 ⊢
              walk_at "kp"
              intro wp hwp
              have e10 : Kp [] H9 (upd H9 wp (.lst [.ref t1])) := Kp.new hwp
              have I4 := I3.kp e10
              have hwp0 : H wp = none := I3.e.free hwp
              have iw0 : IsAll K (upd H9 wp (.lst [.ref t1])) [.ref t1] (wayI [(u0, k)]) := .cons (it1.kp e10) .nil
              have hwpl : (upd H9 wp (.lst [.ref t1])) wp = some (.lst [.ref t1]) := upd_same
              generalize upd H9 wp (.lst [.ref t1]) = H10 at I4 iw0 hwpl ⊢
              walk_at "kp"
              refine w_cut (fun σ' H' => ∃ (wp : Addr) (y11 : Option V) (wws : List V) (way : List (Nat × Nat)) (k' : Nat), σ' = [some (.ref l), some (.ref S), some (.int r), some (.ref L), some (.ref G), some (.ref C), some (.ref O), some (.ref Rw), some (.int u0), some (.int k), some (.ref wp), y11, y12] ∧ Kp [] H H' ∧ H wp = none ∧ H' wp = some (.lst wws) ∧ IsAll K H' wws (wayI way) ∧ WayR lots.length left.length (accL lots) (gG gives) (gD left) way ∧ way.head? = some (r, k')) ?_ ?_
              · obtain ⟨i0, hi0⟩ := List.mem_iff_getElem?.mp hu0v
                refine w_whileQ (fun mm σ' H' => ∃ (wp : Addr) (y11 : Option V) (wws : List V) (rest : List (Nat × Nat)) (r1 k1 : Nat), σ' = [some (.ref l), some (.ref S), some (.int r), some (.ref L), some (.ref G), some (.ref C), some (.ref O), some (.ref Rw), some (.int u0), some (.int k), some (.ref wp), y11, y12] ∧ WS H H' C O Rw lots.length left.length (accL lots) (gG gives) r (cs ++ [(k, u0)]) hs row' ∧ H wp = none ∧ H' wp = some (.lst wws) ∧ IsAll K H' wws (wayI ((r1, k1) :: rest)) ∧ WayR lots.length left.length (accL lots) (gG gives) (gD left) ((r1, k1) :: rest) ∧ (r :: hs.map Prod.fst)[mm]? = some r1 ∧ Behind (r :: hs.map Prod.fst) mm ((r1, k1) :: rest))
                  i0 ⟨wp, _, _, [], u0, k, rfl, I4, hwp0, hwpl, iw0, WayR.one hu0 hkn eacc (by rw [hzg]; omega), hi0, fun p hp => ⟨i0, Nat.le_refl _, by rw [List.mem_singleton.mp hp]; exact hi0⟩⟩ ?_
                rintro mm2 σ' H11 Qt2 ⟨wp, y11, wws, rest, r1, k1, rfl, I, hwp0, hwpl, iw, hW, hi, hb⟩ qT2 qF2
                obtain ⟨v0, hv0, iv0⟩ := iw.get' (i := 0) (x := ((r1 : Int), (k1 : Int))) (by simp [wayI])
                obtain ⟨tz, u1, ww1, rfl, htz, iu1, iw1⟩ := iv0.pair
                have := iu1.int
                subst this
                walk_at "kp"
                refine w_ixL (SqL.of hwpl) (atI_nat (j := 0) hv0) ?_
                walk_at "kp"
                refine w_ixT htz (by rfl) ?_
                walk_at "kp"
                by_cases hrs : r1 = r
                · subst hrs
                  rw [decide_eq_true rfl]
                  exact qF2 _ ⟨wp, y11, wws, (r1, k1) :: rest, k1, rfl, I.e, hwp0, hwpl, iw, hW, rfl⟩
                · rw [decide_eq_false (by intro e; apply hrs; have e : (r1 : Int) = (r : Int) := e; omega)]
                  refine qT2 _ ?_
                  obtain ⟨k', r', j', hh, hc, hjl, hj, hW', hb'⟩ := I.b.back hW hi hb hrs
                  walk_at "kp"
                  refine w_ixL (SqL.of hwpl) (atI_nat (j := 0) hv0) ?_
                  walk_at "kp"
                  refine w_ixT htz (by rfl) ?_
                  refine w_dgetI I.hO (List.nodup_cons.mp I.b.v1).2 hh ?_
                  walk_at "kp"
                  refine w_dgetI I.hC I.b.v2 hc ?_
                  walk_at "kp"
                  intro t2 ht2
                  have e12 : Kp [] H11 (upd H11 t2 (.tup [.int r', .int k'])) := Kp.new ht2
                  have it2 : Is K (upd H11 t2 (.tup [.int r', .int k'])) (.ref t2) (((r' : Int), (k' : Int)) : Int × Int) := is_pair (SqT.of upd_same) (is_int _) (is_int _)
                  have I5 := I.kp e12
                  have hwp12 := e12.keep _ _ hwpl (by simp)
                  have iw12 := iw.kp e12
                  generalize upd H11 t2 (.tup [.int r', .int k']) = H12 at I5 it2 hwp12 iw12 ⊢
                  walk_at "kp"
                  intro l2 hl2
                  have e13 : Kp [] H12 (upd H12 l2 (.lst [.ref t2])) := Kp.new hl2
                  have I6 := I5.kp e13
                  have hwp13 := e13.keep _ _ hwp12 (by simp)
                  have iw13 := iw12.kp e13
                  have hl13 : (upd H12 l2 (.lst [.ref t2])) l2 = some (.lst [.ref t2]) := upd_same
                  have it3 := it2.kp e13
                  generalize upd H12 l2 (.lst [.ref t2]) = H13 at I6 hwp13 iw13 hl13 it3 ⊢
                  walk_at "kp"
                  have hwl : wws.length ≤ lots.length := by
                    rw [iw13.length]
                    have := len_le lots.length _ hW.nd fun x hx => by
                      obtain ⟨p, hp, e⟩ := List.mem_map.mp hx
                      rw [← e]; exact (hW.ok p hp).1
                    simpa [wayI] using this
                  refine ⟨l2, wp, _, _, rfl, rfl, hl13, hwp13, by rw [sizeLine_eq]; simp; omega, fun p3 hp3 => ?_⟩
                  have e14 : Kp [] H13 (upd H13 p3 (.lst ([.ref t2] ++ wws))) := Kp.new hp3
                  walk_at "kp"
                  exact ⟨j', hjl, p3, _, _, (r1, k1) :: rest, r', k', rfl, I6.kp e14, I6.e.free hp3, upd_same, .cons (it3.kp e14) (iw13.kp e14), hW', hj, hb'⟩
              · rintro σ' H11 ⟨wp, y11, wws, way, k', rfl, e, hwp0, hwpl, iw, hW, hhd⟩
                walk_at "kp"
                exact kW H11 wp wws way k' e hwp0 hwpl iw hW hhd
            · walk_at "kp"
              refine w_lenL (I2.e.sqL hlw (by simp)) ?_
              refine w_lpR1 lots.length (by rw [hlwl]) (by omega) (fun o σ' H' => ∃ (y12 : Option V) (hs : List (Nat × Nat)) (row' : List Nat), σ' = [some (.ref l), some (.ref S), some (.int r), some (.ref L), some (.ref G), some (.ref C), some (.ref O), some (.ref Rw), some (.int u0), some (.int k), y10, y11, y12] ∧ WS H H' C O Rw lots.length left.length (accL lots) (gG gives) r (cs ++ [(k, u0)]) hs row' ∧ u0 ∈ r :: hs.map Prod.fst ∧ 2 * (lots.length - hs.length) + row'.length + 1 ≤ mm ∧ (∀ u ∈ r :: hs.map Prod.fst, u ∉ row' → u ≠ u0 → ∀ k', k' < left.length → accL lots u k' → k' ∈ (cs ++ [(k, u0)]).map Prod.fst) ∧ (∀ k' ∈ cs.map Prod.fst, KDone lots.length (gG gives) (gD left) r hs k') ∧ (∀ v, v < o → 0 < gG gives v k → v ∈ r :: hs.map Prod.fst))
                ⟨y12, hs, row', rfl, I2, hu0v, hms, (fun u hu hn hne k' hk' ha => hcs _ (p1 u hu hn hne k' hk' ha)), p2, (fun v hv => by omega)⟩ (fun o σ' H9 ho h => ?_) (fun σ' H9 h => ?_)
              · obtain ⟨y12, hs, row', rfl, I, hu0v, hms, p1, p2, p4⟩ := h
                have St := Wst.kp I.e (by simp)
                have hgl : o < gs.length := by rw [St.len]; omega
                have gg : gs[o]? = some (gs[o]'hgl) := List.getElem?_eq_getElem hgl
                obtain ⟨ro, hro, hrl, hra⟩ := St.row o _ gg
                obtain ⟨z2, hz2, _, hza2⟩ := int_idx (xs := ro) (z := (k : Int)) (by omega) (by omega)
                rw [Int.toNat_natCast] at hz2
                have hgz : gG gives o k = z2 := by
                  unfold gG
                  rw [show gives.getD o [] = ro by rw [List.getD_eq_getElem?_getD, hro]; rfl]
                  exact gD_get hz2
                walk_at "kp"
                refine w_ixL (SqL.of St.hG) (v := .ref (gs[o]'hgl)) (atI_nat (by rw [List.getElem?_map, gg]; rfl)) ?_
                walk_at "kp"
                refine w_ixL (SqL.of hra) hza2 ?_
                walk_at "kp"
                have skip : (0 < gG gives o k → o ∈ r :: hs.map Prod.fst) → ∀ v, v < o + 1 → 0 < gG gives v k → v ∈ r :: hs.map Prod.fst := fun h v hv hg => by
                  by_cases e : v = o
                  · rw [e]; exact h (by rw [← e]; exact hg)
                  · exact p4 v (by omega) hg
                refine w_itD (fun hp => ?_) (fun hp => ?_)
                · walk_at "kp"
                  by_cases hor : o = r
                  · rw [decide_eq_true (show (o : Int) = (r : Int) by omega)]
                    walk_at "kp"
                    exact ⟨_, hs, row', rfl, I, hu0v, hms, p1, p2, skip fun _ => by rw [hor]; exact List.mem_cons_self ..⟩
                  · rw [decide_eq_false (show ¬ (o : Int) = (r : Int) by omega)]
                    walk_at "kp"
                    refine w_dinI I.hO (List.nodup_cons.mp I.b.v1).2 ?_
                    walk_at "kp"
                    by_cases hoh : o ∈ hs.map Prod.fst
                    · rw [decide_eq_true hoh]
                      walk_at "kp"
                      exact ⟨_, hs, row', rfl, I, hu0v, hms, p1, p2, skip fun _ => List.mem_cons_of_mem _ hoh⟩
                    · rw [decide_eq_false hoh]
                      walk_at "kp"
                      have hhl := I.b.len
                      refine w_dputI I.hO hoh (by omega) ?_
                      have hov : o ∉ r :: hs.map Prod.fst := fun m => by
                        rcases List.mem_cons.mp m with m | m
                        · exact hor m
                        · exact hoh m
                      have b2 := I.b.hold ho hov (by rw [hgz]; omega) hkn (r := u0) (List.mem_append_right _ (List.mem_singleton.mpr rfl))
                      have hhl2 := b2.len
                      rw [List.length_append, List.length_singleton] at hhl2
                      have hR9 : (upd H9 O (.dK (dI (hs ++ [(o, k)])))) Rw = some (.lst ((nI row').map V.int)) := by rw [upd_ne nOR.symm]; exact I.hR
                      walk_at "kp"
                      refine w_bmL hR9 ?_
                      walk_at "kp"
                      refine w_append hR9 (by rw [sizeLine_eq, List.length_map, nI_len]; omega) ?_
                      walk_at "kp"
                      have hvs : ∀ v ∈ r :: hs.map Prod.fst, v ∈ r :: (hs ++ [(o, k)]).map Prod.fst := fun v hv => by rw [List.map_append, ← List.cons_append]; exact List.mem_append_left _ hv
                      have hov2 : o ∈ r :: (hs ++ [(o, k)]).map Prod.fst := by simp
                      refine ⟨_, hs ++ [(o, k)], row' ++ [o], rfl, ⟨(I.e.mut hO0).mut hRw0, by rw [upd_ne nCR, upd_ne nCO]; exact I.hC, by rw [upd_ne nOR]; exact upd_same, by rw [upd_same]; simp [nI], b2, fun u hu => ?_⟩, hvs _ hu0v, by simp; omega, fun u hu hn hne k' hk' ha => ?_, fun k' hk' => (p2 k' hk').grow _, fun v hv hg => ?_⟩
                      · rcases List.mem_append.mp hu with hu | hu
                        · exact hvs _ (I.q u hu)
                        · rw [List.mem_singleton.mp hu]; exact hov2
                      · have hno : u ∉ row' := fun m => hn (List.mem_append_left _ m)
                        have hne2 : u ≠ o := fun e => hn (by rw [e]; simp)
                        have : u ∈ r :: hs.map Prod.fst := by
                          rw [List.map_append, ← List.cons_append] at hu
                          rcases List.mem_append.mp hu with hu | hu
                          · exact hu
                          · exact absurd (by simpa using hu) hne2
                        exact p1 u this hno hne k' hk' ha
                      · by_cases e : v = o
                        · rw [e]; exact hov2
                        · exact hvs _ (p4 v (by omega) hg)
                · walk_at "kp"
                  exact ⟨_, hs, row', rfl, I, hu0v, hms, p1, p2, skip fun h => by rw [hgz] at h; omega⟩
              · obtain ⟨y12, hs, row', rfl, I, hu0v, hms, p1, p2, p4⟩ := h
                refine ⟨_, _, _, _, cs ++ [(k, u0)], hs, row', rfl, I, hu0v, hms, p1, fun k' hk' => ?_, p3' _ hcs hkc, trivial⟩
                by_cases e : k' = k
                · rw [e]; exact ⟨by rw [hzg]; omega, p4⟩
                · rw [List.map_append] at hk'
                  rcases List.mem_append.mp hk' with hk' | hk'
                  · exact p2 k' hk'
                  · exact absurd (by simpa using hk') e
        · obtain ⟨y9, y10, y11, y12, cs, hs, row', rfl, I, hu0v, hms, p1, p2, p3, _⟩ := h
          rw [List.length_map, List.take_length] at p3
          refine ⟨2 * (lots.length - hs.length) + row'.length, by omega, _, _, _, _, _, cs, hs, row', rfl, by omega, rfl, I, fun u hu hn k hk ha => ?_, p2⟩
          by_cases e : u = u0
          · rw [e] at ha
            unfold accL at ha
            rw [List.getD_eq_getElem?_getD, gl] at ha
            have := p3 (k : Int) ha
            rwa [Int.toNat_natCast] at this
          · exact p1 u hu hn e k hk ha
    · rintro σ' H4 ⟨y8, y9, y10, y11, y12, cs, hs, rfl, I, p1, p2⟩
      walk_at "kp"
      exact kN _ _ I.e (I.b.closed W.l0 p1 p2) (List.mem_cons_self ..)
end
end K85
namespace K85
open PySem PySem.Spec PyProof.Rows L2 KP
open PySem.W (Datum Tup DatumOrd)
open C8 (fnScope fnBody fnArgs fnScope_by)
section
variable {P : Program} {w : World} {K : PySem.W.Frag} {mg : Str → Option Value} {base : Heap} {C_Table C_Refused C_DeskError : Addr}
end
open FL
theorem wayI_at {way : List (Nat × Nat)} {i : Nat} {q : Int × Int} (h : (wayI way)[i]? = some q) : ∃ u k : Nat, way[i]? = some (u, k) ∧ q = ((u : Int), (k : Int)) := by
  unfold wayI at h
  rw [List.getElem?_map] at h
  cases e : way[i]? with
  | none => rw [e] at h; cases h
  | some p => rw [e] at h; exact ⟨p.1, p.2, rfl, (Option.some.inj h).symm⟩
section
variable {P : Program} {w : World} {K : PySem.W.Frag} {mg : Str → Option Value} {base : Heap} {C_Table C_Refused C_DeskError : Addr}
set_option maxHeartbeats 1000000 in
theorem cal__law_add (T : Txt P K mg C_Table C_Refused C_DeskError) : C8.Cal P w K mg base 2 "_law_add" (spAdd K) [] := by
  refine mkCal T.d__law_add sc__law_add (fun vs H Q E h => ?_) (fun f cdv A outer s H vs Q E hr h => ?_)
  · obtain ⟨l, S, L, G, gs, lots, left, gives, r, rfl, _⟩ := h; rfl
  · obtain ⟨l, S, L, G, gs, lots, left, gives, r, rfl, W, hlM, hr0, kN, kY⟩ := h
    refine ⟨_, (pss_cons (ps_par (i := 3) (j := 4) rfl sc__law_add.nd rfl rfl (by decide) rfl rfl (pa_cons (C8.pe_c (cal__law_way T) hr (by decide) rfl (pa_cons (pv 0) (pa_cons (pv 1) (pa_cons (pv 2) pa_nil)))) (pa_cons pe_non pa_nil)) rfl)
 (pss_cons (ps_if (pt_cmp (pc_isN (pv 3)))
 (pss_one (ps_ret pe_bl))
 pss_nil)
 (C8.pss_cut (ps_for PassesOwn.never rfl (KP.pi_listK K rfl (pv 3)) (KP.pg_tupK (n := 2) K rfl rfl (pgs_cons (pg_name (i := 5) sc__law_add.nd rfl (by first | exact Or.inl rfl | exact Or.inr rfl)) (pgs_cons (pg_name (i := 6) sc__law_add.nd rfl (by first | exact Or.inl rfl | exact Or.inr rfl)) pgs_nil)))
 (pss_cons (ps_set (i := 7) sc__law_add.nd rfl (by first | exact Or.inl rfl | exact Or.inr rfl) (pe_ix (KP.ix_listK K rfl) (pe_ix (KP.ix_listK K rfl) (pv 1) pe_int (fun _ _ => rfl)) (pv 5) (fun _ _ => rfl)))
 (C8.pss_cut (ps_if (pt_cmp (pc_notN (pv 4)))
 (pss_one (ps_asg (pe_op op_sub (pe_ix (KP.ix_listK K rfl) (pv 7) (pv 4) (fun _ _ => rfl)) pe_int) (pg_sub (pv 7) (pv 4) set_list)))
 pss_nil)
 (pss_one (ps_asg (pe_tup (pa_cons (pe_op op_add (pe_ix (KP.ix_listK K rfl) (pv 7) (pv 6) (fun _ _ => rfl)) pe_int) (pa_cons (pv 6) pa_nil))) (KP.pg_tupK (n := 2) K rfl rfl (pgs_cons (pg_sub (pv 7) (pv 6) set_list) (pgs_cons (pg_name (i := 4) sc__law_add.nd rfl (by first | exact Or.inl rfl | exact Or.inr rfl)) pgs_nil))))))))
 (pss_cons (ps_set (i := 8) sc__law_add.nd rfl (by first | exact Or.inl rfl | exact Or.inr rfl) (pe_ix (KP.ix_listK K rfl) (pv 1) pe_int (fun _ _ => rfl)))
 (pss_cons (ps_asg (pe_op op_sub (pe_ix (KP.ix_listK K rfl) (pv 8) (pv 4) (fun _ _ => rfl)) pe_int) (pg_sub (pv 8) (pv 4) set_list))
 (pss_one (ps_ret pe_bl))))))), ?_⟩
    (simp only [n__law_add, KP.st_cons, KP.st_nilc, KP.st_nil]); (try dsimp only [L2.cxOf, L2.Cx.nox, L2.Cx.wish])
    have Wml := W.ml
    have Wn1 := W.n1
    walk_at "kp"
    refine ⟨l, S, L, G, gs, lots, left, gives, r, rfl, W, hr0, fun H1 T1 e1 hcl hT => ?_, fun H1 wp ws way k0 e1 hwp0 hwp hws hW hhd => ?_⟩
    · walk_at "kp"
      exact kN H1 T1 e1 hcl hT
    have St1 := W.st.kp e1 (by simp)
    have hnd := St1.nd
    have n1 := List.nodup_cons.mp hnd
    have n2 := List.nodup_cons.mp n1.2
    have n3 := List.nodup_cons.mp n2.2
    have hw0 : way[0]? = some (r, k0) := by rw [← List.head?_eq_getElem?]; exact hhd
    have hwl : 0 < way.length := (List.getElem?_eq_some_iff.mp hw0).1
    have hlen : (wayI way).length = way.length := by simp [wayI]
    have hwsl := hws.length
    have nwp : wp ∉ gs := fun m => by
      obtain ⟨i, hi⟩ := List.mem_iff_getElem?.mp m
      obtain ⟨ro, _, _, h3⟩ := W.st.row i wp hi
      rw [hwp0] at h3; cases h3
    walk_at "kp"
    refine w_cut (fun σ' H' => ∃ (bf : V) (y5 y6 y7 : Option V) (gives' : List (List Int)), σ' = [some (.ref l), some (.ref S), some (.int r), some (.ref wp), some bf, y5, y6, y7, none] ∧ Kp gs H1 H' ∧ StR H' S L G gs left gives' ∧ AR lots left gives gives' r way way.length bf) ?_ ?_
    · walk_at "kp"
      refine w_lpL (SqL.of hwp) (fun i σ' H' => ∃ (bf : V) (y5 y6 y7 : Option V) (gives' : List (List Int)), σ' = [some (.ref l), some (.ref S), some (.int r), some (.ref wp), some bf, y5, y6, y7, none] ∧ Kp gs H1 H' ∧ StR H' S L G gs left gives' ∧ AR lots left gives gives' r way i bf)
        ⟨.non, none, none, none, gives, rfl, Kp.refl, St1, ⟨fun _ => ⟨rfl, rfl⟩, fun p h => by omega, fun u _ => rfl, rfl⟩⟩ (fun i σ' H' _ h => by obtain ⟨_, _, _, _, _, _, e, _⟩ := h; exact SqL.of (e.keep _ _ hwp nwp)) (fun i x σ' H' hx h => ?_) (fun σ' H' h => by
          obtain ⟨bf, y5, y6, y7, gives', h1, h2, h3, h4⟩ := h
          rw [hwsl, hlen] at h4
          exact ⟨bf, y5, y6, y7, gives', h1, h2, h3, h4⟩)
      obtain ⟨bf, y5, y6, y7, gives', rfl, e2, St, a⟩ := h
      obtain ⟨q, hq, iq⟩ := hws.get hx
      obtain ⟨u, k, hg, rfl⟩ := wayI_at hq
      obtain ⟨hu, hk, hac⟩ := hW.ok _ (List.mem_of_getElem? hg)
      obtain ⟨tz, u1, w1, rfl, htz, iu1, iw1⟩ := (iq.kp e2).pair
      have := iu1.int
      subst this
      have := iw1.int
      subst this
      have hml : gives'.length = lots.length := a.len.trans Wml
      have hgl : u < gs.length := by rw [St.len]; omega
      have gg : gs[u]? = some (gs[u]'hgl) := List.getElem?_eq_getElem hgl
      obtain ⟨ga, hga⟩ : ∃ ga, ga = gs[u]'hgl := ⟨_, rfl⟩
      rw [← hga] at gg
      have hgam : ga ∈ gs := List.mem_of_getElem? gg
      obtain ⟨ro, hro, hrl, hra⟩ := St.row u ga gg
      refine w_gTup htz rfl ?_
      walk_at "kp"
      refine w_ixL (SqL.of St.hS) (by rfl) ?_
      walk_at "kp"
      refine w_ixL (SqL.of St.hG) (v := .ref ga) (atI_nat (by rw [List.getElem?_map, gg]; rfl)) ?_
      walk_at "kp"
      refine w_cut (fun σ' H' => ∃ (g2 : List (List Int)) (r2 : List Int), σ' = [some (.ref l), some (.ref S), some (.int r), some (.ref wp), some bf, some (.int u), some (.int k), some (.ref ga), none] ∧ Kp gs H1 H' ∧ StR H' S L G gs left g2 ∧ H' ga = some (.lst (r2.map V.int)) ∧ r2.length = left.length ∧ AR lots left gives (g2.set u (r2.set k (gD r2 k + 1))) r way (i + 1) (.int k)) ?_ ?_
      · cases i with
        | zero =>
          obtain ⟨e0, rfl⟩ := a.zero rfl
          have hur : u = r ∧ k = k0 := by
            rw [hw0] at hg
            have := Option.some.inj hg
            exact ⟨(congrArg Prod.fst this).symm, (congrArg Prod.snd this).symm⟩
          obtain ⟨rfl, rfl⟩ := hur
          walk_at "kp"
          exact ⟨gives', ro, rfl, e2, St, hra, hrl, a.first hW hg hml hro hrl⟩
        | succ i =>
          have hil : i + 1 < way.length := (List.getElem?_eq_some_iff.mp hg).1
          have hb : way[i]? = some (way[i]'(by omega)) := List.getElem?_eq_getElem (by omega)
          obtain ⟨pb, hpb⟩ : ∃ pb, pb = way[i]'(by omega) := ⟨_, rfl⟩
          rw [← hpb] at hb
          obtain ⟨ub, kb⟩ := pb
          obtain ⟨rfl, an⟩ := a.next hW hb hg hml hro hrl
          obtain ⟨_, hkb, _⟩ := hW.ok _ (List.mem_of_getElem? hb)
          obtain ⟨z, hz, _, hza⟩ := int_idx (xs := ro) (z := (kb : Int)) (by omega) (by omega)
          rw [Int.toNat_natCast] at hz
          have hzg : gD ro kb = z := gD_get hz
          walk_at "kp"
          refine w_ixL (SqL.of hra) hza ?_
          walk_at "kp"
          refine w_setL (j := kb) hra ?_ ?_
          · unfold ixN
            rw [if_pos (by omega), if_pos (by rw [List.length_map]; omega), Int.toNat_natCast]
          walk_at "kp"
          rw [← List.map_set]
          refine ⟨gives'.set u (ro.set kb (z - 1)), ro.set kb (z - 1), rfl, e2.trans (Kp.set hra rfl hgam), St.set gg (by rw [List.length_set]; exact hrl), upd_same, by rw [List.length_set]; exact hrl, ?_⟩
          rw [List.set_set]
          rw [hzg] at an
          exact an
      · rintro σ' H2 ⟨g2, r2, rfl, e3, St2, hra2, hr2l, a2⟩
        obtain ⟨z, hz, _, hza⟩ := int_idx (xs := r2) (z := (k : Int)) (by omega) (by omega)
        rw [Int.toNat_natCast] at hz
        have hzg : gD r2 k = z := gD_get hz
        walk_at "kp"
        refine w_ixL (SqL.of hra2) hza ?_
        walk_at "kp"
        intro t ht
        have e4 : Kp gs H2 (upd H2 t (.tup [.int (z + 1), .int k])) := Kp.new ht
        refine w_gTup (SqT.of upd_same) rfl ?_
        walk_at "kp"
        have nga : ga ≠ t := ne_of_none hra2 ht
        have hra3 : (upd H2 t (.tup [.int (z + 1), .int k])) ga = some (.lst (r2.map V.int)) := by rw [upd_ne nga]; exact hra2
        have St3 := St2.kp (M := []) (Kp.new (o := HO.tup [.int (z + 1), .int k]) ht) (by simp)
        refine w_setL (j := k) hra3 ?_ ?_
        · unfold ixN
          rw [if_pos (by omega), if_pos (by rw [List.length_map]; omega), Int.toNat_natCast]
        walk_at "kp"
        refine ⟨_, _, _, _, g2.set u (r2.set k (gD r2 k + 1)), rfl, (e3.trans e4).trans (Kp.set hra3 rfl hgam), ?_, a2⟩
        rw [← List.map_set, hzg]
        exact St3.set gg (by rw [List.length_set]; exact hr2l)
    · rintro σ' H2 ⟨bf, y5, y6, y7, gives', rfl, e2, St, a⟩
      have hla : way[way.length - 1]? = some (way[way.length - 1]'(by omega)) := List.getElem?_eq_getElem (by omega)
      obtain ⟨pl, hpl⟩ : ∃ pl, pl = way[way.length - 1]'(by omega) := ⟨_, rfl⟩
      rw [← hpl] at hla
      obtain ⟨ul, kl⟩ := pl
      obtain ⟨rfl, hS⟩ := a.pos (ul, kl) hwl hla
      obtain ⟨_, hkl, _⟩ := hW.ok _ (List.mem_of_getElem? hla)
      have hpos : 0 < gD left kl := hW.last (ul, kl) (by rw [List.getLast?_eq_getElem?]; exact hla)
      obtain ⟨z, hz, _, hza⟩ := int_idx (xs := left) (z := (kl : Int)) (by omega) (by omega)
      rw [Int.toNat_natCast] at hz
      have hzg : gD left kl = z := gD_get hz
      walk_at "kp"
      refine w_ixL (SqL.of St.hS) (by rfl) ?_
      walk_at "kp"
      refine w_ixL (SqL.of St.hL) hza ?_
      walk_at "kp"
      refine w_setL (j := kl) St.hL ?_ ?_
      · unfold ixN
        rw [if_pos (by omega), if_pos (by rw [List.length_map]; omega), Int.toNat_natCast]
      walk_at "kp"
      rw [← List.map_set]
      have e3 : Kp (L :: gs) H (upd H2 L (.lst ((left.set kl (z - 1)).map V.int))) := (e1.wide.trans (e2.mono fun x hx => List.mem_cons_of_mem _ hx)).trans (Kp.set St.hL rfl (List.mem_cons_self ..))
      have eL : ∀ j, gD (left.set kl (z - 1)) j = gD left j + FL.e1 kl (-1) j := fun j => by
        rw [gD_set (by omega)]
        unfold FL.e1
        by_cases c : j = kl
        · rw [if_pos c, if_pos c, c, hzg]; omega
        · rw [if_neg c, if_neg c]; omega
      refine kY _ (left.set kl (z - 1)) gives' e3 ⟨St.setL (by rw [List.length_set]), W.lt.kp e3 hlM, a.len.trans Wml, W.m1, by rw [List.length_set]; exact Wn1, by rw [List.length_set]; exact W.ok, W.l1, fun j hj => ?_⟩ (List.length_set ..) (fun stock c SS => ?_)
      · rw [List.length_set] at hj
        have := W.l0 j hj
        rw [eL]
        unfold FL.e1
        by_cases c : j = kl
        · rw [if_pos c, c]; omega
        · rw [if_neg c]; omega
      · exact ((hS stock c SS).last hkl hpos).ext (fun _ _ => rfl) (fun _ _ _ _ => rfl) (fun j _ => eL j) (fun _ _ => rfl)
end
end K85
namespace K85
open PySem PySem.Spec PyProof.Rows L2 KP
open PySem.W (Datum Tup DatumOrd)
open C8 (fnScope fnBody fnArgs fnScope_by)
section
variable {P : Program} {w : World} {K : PySem.W.Frag} {mg : Str → Option Value} {base : Heap} {C_Table C_Refused C_DeskError : Addr}
theorem getD_idx {stock : List Int} {k : Int} (h0 : 0 ≤ k) (h1 : k < stock.length) : ∃ z, stock[k.toNat]? = some z ∧ stock.getD k.toNat 0 = z ∧ atI (stock.map V.int) k = some (.int z) := by
  obtain ⟨z, hz, _, hza⟩ := int_idx (xs := stock) (z := k) h0 h1
  exact ⟨z, hz, by rw [List.getD_eq_getElem?_getD, hz]; rfl, hza⟩
theorem cal_units_in (T : Txt P K mg C_Table C_Refused C_DeskError) : C8.Cal P w K mg base 1 "units_in" (spUnits K) [] := by
  refine mkCal T.d_units_in sc_units_in (fun vs H Q E h => ?_) (fun f cdv A outer s H vs Q E hr h => ?_)
  · obtain ⟨vk, vl, stock, lot, rfl, _⟩ := h; rfl
  · obtain ⟨vk, vl, stock, lot, rfl, hk, hl, hb, hn, k⟩ := h
    refine ⟨_, (pss_one (ps_ret (pe_callB (KP.cr_sumK K rfl rfl) rfl T.m_sum KP.bt_sum (pa_cons (pe_lc (own := [("kind", 2)]) rfl sc_units_in.nd (KP.pi_tupK K rfl (pv 1))
 (blkOk_by (N := n_units_in) (sc := fnScope s_units_in) (by decide +kernel)) (fun _ _ _ _ _ => (pg_name (i := 2) sc_units_in.nd rfl (by first | exact Or.inl rfl | exact Or.inr rfl))) (fun _ _ _ _ _ => pts_nil) (fun _ _ _ _ _ => (pe_ix (KP.ix_tupK K rfl) (pv 0) (pv 2) (fun _ _ => rfl)))) pa_nil)))), ?_⟩
    (simp only [n_units_in, KP.st_cons, KP.st_nilc, KP.st_nil]); (try dsimp only [L2.cxOf, L2.Cx.nox, L2.Cx.wish])
    obtain ⟨p, ps, rfl, hp, hpa⟩ := hk.tupm
    have := hpa.ints
    subst this
    obtain ⟨q, qs, rfl, hq, hqa⟩ := hl.tupm
    walk_at "kp"
    refine w_lcTF hl (fun k => some (stock.getD k.toNat 0)) (by omega) (fun i x vx H1 QE QF hx ix e1 kE kF => ?_) (fun D ws H1 hD e1 hall hH1 => ?_)
    · have := ix.int
      subst this
      obtain ⟨z, hz, hg, ha⟩ := getD_idx (hb x (List.mem_of_getElem? hx)).1 (hb x (List.mem_of_getElem? hx)).2
      walk_at "kp"
      refine ⟨rfl, ?_⟩
      walk_at "kp"
      refine w_ixT (e1.sqT hp) ha ?_
      exact kE _ z _ Kp.refl (is_int _) (by rw [hg])
    · have hw := hall.ints
      subst hw
      rw [fm_map] at hH1
      refine w_sum (SqL.of hH1) ?_
      exact k H1 e1
theorem cal_offered_kinds (T : Txt P K mg C_Table C_Refused C_DeskError) : C8.Cal P w K mg base 2 "offered_kinds" (spOffered K C_Table) [] := by
  refine mkCal T.d_offered_kinds sc_offered_kinds (fun vs H Q E h => ?_) (fun f cdv A outer s H vs Q E hr h => ?_)
  · obtain ⟨t, vk, kn, types, stock, r, rfl, _⟩ := h; rfl
  · obtain ⟨t, vk, kn, types, stock, r, rfl, hT, hk, hs, hrt, k⟩ := h
    refine ⟨_, (pss_one (ps_ret (pe_lc (own := [("kind", 3)]) rfl sc_offered_kinds.nd (KP.pi_tupK K rfl (C8.pe_c (cal_accepted T) hr (by decide) rfl (pa_cons (pv 0) (pa_cons (pv 2) pa_nil))))
 (blkOk_by (N := n_offered_kinds) (sc := fnScope s_offered_kinds) (by decide +kernel)) (fun _ _ _ _ _ => (pg_name (i := 3) sc_offered_kinds.nd rfl (by first | exact Or.inl rfl | exact Or.inr rfl))) (fun _ _ _ _ _ => (pts_one (pt_cmpR op_gt (pe_ix (KP.ix_tupK K rfl) (pv 1) (pv 3) (fun _ _ => rfl)) pe_int (nomark _)))) (fun _ _ _ _ _ => (pv 3))))), ?_⟩
    (simp only [n_offered_kinds, KP.st_cons, KP.st_nilc, KP.st_nil]); (try dsimp only [L2.cxOf, L2.Cx.nox, L2.Cx.wish])
    have ok := hT.ok
    obtain ⟨p, hp⟩ : ∃ p, types[r]? = some p := ⟨_, List.getElem?_eq_getElem hrt⟩
    obtain ⟨c, cs, rfl, hc, hca⟩ := hk.tupm
    have := hca.ints
    subst this
    have hlk : ∀ k ∈ p.2.items, 0 ≤ k ∧ k < kn.length := (listB_iff.mp (ok.tl p (List.mem_of_getElem? hp))).1
    have hll := listB_len (ok.tl p (List.mem_of_getElem? hp))
    have ok2 := ok.k2
    walk_at "kp"
    refine ⟨t, kn, types, r, p, rfl, hT, hp, fun v iv => ?_⟩
    have iv : Is K H v (Tup.mk p.2.items) := iv
    refine w_lcTF iv (fun k => if decide (0 < stock.getD k.toNat 0) then some k else none) (by omega) (fun i x vx H1 QE QF hx ix e1 kE kF => ?_) (fun D ws H1 hD e1 hall hH1 => ?_)
    · have := ix.int
      subst this
      have hb := hlk x (List.mem_of_getElem? hx)
      obtain ⟨z, hz, hg, ha⟩ := getD_idx (stock := stock) hb.1 (by omega)
      walk_at "kp"
      refine ⟨rfl, ?_⟩
      walk_at "kp"
      refine w_ixT (e1.sqT hc) ha ?_
      walk_at "kp"
      refine w_itD (fun h0 => ?_) (fun h0 => ?_)
      · walk_at "kp"
        exact kE _ x _ Kp.refl (is_int _) (by rw [hg, decide_eq_true h0]; rfl)
      · exact kF _ Kp.refl (by rw [hg, decide_eq_false h0]; rfl)
    · have hw := hall.ints
      subst hw
      rw [fm_filter, ← lotsOf_get hp] at hH1
      exact k H1 D e1 hD hH1
theorem cal_takers_beside (T : Txt P K mg C_Table C_Refused C_DeskError) : C8.Cal P w K mg base 2 "takers_beside" (spBeside K C_Table) [] := by
  refine mkCal T.d_takers_beside sc_takers_beside (fun vs H Q E h => ?_) (fun f cdv A outer s H vs Q E hr h => ?_)
  · obtain ⟨t, kn, types, kd, od, rfl, _⟩ := h; rfl
  · obtain ⟨t, kn, types, kd, od, rfl, hT, k⟩ := h
    refine ⟨_, (pss_cons (ps_set (i := 3) sc_takers_beside.nd rfl (by first | exact Or.inl rfl | exact Or.inr rfl) (C8.pe_c (cal_takers T) hr (by decide) rfl (pa_cons (pv 0) (pa_cons (pv 2) pa_nil))))
 (pss_one (ps_ret (pe_lc (own := [("request", 4)]) rfl sc_takers_beside.nd (KP.pi_tupK K rfl (C8.pe_c (cal_takers T) hr (by decide) rfl (pa_cons (pv 0) (pa_cons (pv 1) pa_nil))))
 (blkOk_by (N := n_takers_beside) (sc := fnScope s_takers_beside) (by decide +kernel)) (fun _ _ _ _ _ => (pg_name (i := 4) sc_takers_beside.nd rfl (by first | exact Or.inl rfl | exact Or.inr rfl))) (fun _ _ _ _ _ => (pts_one (pt_cmpR (KP.op_notInXK K rfl hr.units) (pv 4) (pv 3) rfl))) (fun _ _ _ _ _ => (pv 4)))))), ?_⟩
    (simp only [n_takers_beside, KP.st_cons, KP.st_nilc, KP.st_nil]); (try dsimp only [L2.cxOf, L2.Cx.nox, L2.Cx.wish])
    have ok := hT.ok
    have okt := ok.t2
    walk_at "kp"
    refine ⟨t, kn, types, od, rfl, hT, fun vo H1 e1 io => ?_⟩
    walk_at "kp"
    refine ⟨t, kn, types, kd, rfl, hT.kp e1 (by simp), fun vk H2 e2 ik => ?_⟩
    have io := io.kp e2
    have hlen : (takersI (lotsOf types) kd).length ≤ types.length := by
      unfold takersI takersN
      rw [nI_len]
      refine Nat.le_trans (List.length_filter_le _ _) ?_
      rw [List.length_range]; simp [lotsOf]
    refine w_lcTF ik (fun u => if decide (u ∉ takersI (lotsOf types) od) then some u else none) (by omega) (fun i x vx H3 QE QF hx ix e3 kE kF => ?_) (fun D ws H3 hD e3 hall hH3 => ?_)
    · have := ix.int
      subst this
      obtain ⟨q, qs, rfl, hq, hqa⟩ := (io.kp e3).tupm
      walk_at "kp"
      refine ⟨rfl, ?_⟩
      walk_at "kp"
      refine ⟨Int, inferInstance, inferInstance, x, takersI (lotsOf types) od, q, qs, rfl, .inr hq, hqa, is_int _, by decide, ?_⟩
      walk_at "kp"
      rw [if_pos rfl]
      refine w_itN (fun h0 => ?_) (fun h0 => ?_)
      · walk_at "kp"
        exact kE _ x _ Kp.refl (is_int _) (by rw [decide_eq_true h0]; rfl)
      · exact kF _ Kp.refl (by rw [decide_eq_false (by simpa using h0)]; rfl)
    · have hw := hall.ints
      subst hw
      rw [fm_filter] at hH3
      exact k H3 D ((e1.trans e2).trans e3) (e1.free (e2.free hD)) hH3
theorem cal_least_kinds (T : Txt P K mg C_Table C_Refused C_DeskError) : C8.Cal P w K mg base 3 "least_kinds" (spLeastK K C_Table) [] := by
  refine mkCal T.d_least_kinds sc_least_kinds (fun vs H Q E h => ?_) (fun f cdv A outer s H vs Q E hr h => ?_)
  · obtain ⟨t, vk, kn, types, stock, r, rfl, _⟩ := h; rfl
  · obtain ⟨t, vk, kn, types, stock, r, rfl, hT, hk, hs, hrt, k⟩ := h
    refine ⟨_, (pss_cons (ps_set (i := 3) sc_least_kinds.nd rfl (by first | exact Or.inl rfl | exact Or.inr rfl) (C8.pe_c (cal_offered_kinds T) hr (by decide) rfl (pa_cons (pv 0) (pa_cons (pv 1) (pa_cons (pv 2) pa_nil)))))
 (pss_one (ps_ret (pe_callTy (KP.cq_tupleK K rfl) rfl T.m_tuple KP.bt_tuple (pa_cons (pe_lc (own := [("kind", 4)]) rfl sc_least_kinds.nd (KP.pi_listK K rfl (pv 3))
 (blkOk_by (N := n_least_kinds) (sc := fnScope s_least_kinds) (by decide +kernel)) (fun _ _ _ _ _ => (pg_name (i := 4) sc_least_kinds.nd rfl (by first | exact Or.inl rfl | exact Or.inr rfl))) (fun _ _ _ _ _ => (pts_one (pt_val (pe_callB (KP.cr_allK K rfl rfl) rfl T.m_all KP.bt_all (pa_cons (pe_lc (own := [("other", 5)]) rfl sc_least_kinds.nd (KP.pi_listK K rfl (pv 3))
 (blkOk_by (N := n_least_kinds) (sc := relS _ (fnScope s_least_kinds)) (by decide +kernel)) (fun _ _ _ _ _ => (pg_name (i := 5) sc_least_kinds.nd rfl (by first | exact Or.inl rfl | exact Or.inr rfl))) (fun _ _ _ _ _ => pts_nil) (fun _ _ _ _ _ => (pe_cmpR (KP.op_eqXK K rfl hr.units) (C8.pe_c (cal_takers_beside T) hr (by decide) rfl (pa_cons (pv 0) (pa_cons (pv 4) (pa_cons (pv 5) pa_nil)))) (pe_lst pa_nil) (nomark _)))) pa_nil))))) (fun _ _ _ _ _ => (pv 4))) pa_nil))))), ?_⟩
    (simp only [n_least_kinds, KP.st_cons, KP.st_nilc, KP.st_nil]); (try dsimp only [L2.cxOf, L2.Cx.nox, L2.Cx.wish])
    have ok := hT.ok
    have ok2 := ok.k2
    have hhl : (handOf (lotsOf types) stock r).length ≤ 1000 := by
      unfold handOf
      refine Nat.le_trans (List.length_filter_le _ _) ?_
      obtain ⟨p, hp⟩ : ∃ p, types[r]? = some p := ⟨_, List.getElem?_eq_getElem hrt⟩
      rw [lotsOf_get hp]
      have := listB_len (ok.tl p (List.mem_of_getElem? hp))
      omega
    walk_at "kp"
    refine ⟨t, vk, kn, types, stock, r, rfl, hT, hk, hs, hrt, fun H1 p e1 hp0 hp => ?_⟩
    have hT := hT.kp e1 (by simp)
    generalize handOf (lotsOf types) stock r = hand at hp hhl k
    walk_at "kp"
    refine w_lcLF (SqL.of hp) (isAll_ints _) (fun k => if hand.all (fun o => decide (besideOf (lotsOf types) k o = [])) then some k else none) (by omega) (fun i x vx H2 QE QF hx ix e2 kE kF => ?_) (fun D ws H2 hD e2 hall hH2 => ?_)
    · have := ix.int
      subst this
      have hp2 := e2.keep _ _ hp (by simp)
      have hT := hT.kp e2 (by simp)
      walk_at "kp"
      refine ⟨rfl, ?_⟩
      walk_at "kp"
      refine w_lcLF (SqL.of hp2) (isAll_ints _) (fun o => some (decide (besideOf (lotsOf types) x o = []))) (by omega) (fun j y vy H3 QE3 QF3 hy iy e3 kE3 kF3 => ?_) (fun D3 ws3 H3 hD3 e3 hall3 hH3 => ?_)
      · have := iy.int
        subst this
        walk_at "kp"
        refine ⟨rfl, ?_⟩
        walk_at "kp"
        refine ⟨t, kn, types, x, y, rfl, hT.kp e3 (by simp), fun H4 q e4 hq0 hq => ?_⟩
        walk_at "kp"
        intro z hz
        have e5 : Kp [] H4 (upd H4 z (.lst [])) := Kp.new hz
        refine w_eqX (besideOf (lotsOf types) x y) ([] : List Int) (is_list (SqL.of (e5.keep _ _ hq (by simp))) (isAll_ints _)) (is_list (SqL.of upd_same) .nil) (by decide) ?_
        exact kE3 _ _ _ (e4.trans e5) (is_bl _) rfl
      · have hw := hall3.bls
        subst hw
        rw [fm_map] at hH3
        walk_at "kp"
        refine w_all (SqL.of hH3) ?_
        walk_at "kp"
        rw [List.all_map]
        refine w_itB (fun h0 => ?_) (fun h0 => ?_)
        · walk_at "kp"
          exact kE _ x _ e3 (is_int _) (if_pos h0)
        · exact kF _ e3 (if_neg fun c => by rw [show (hand.all fun o => decide (besideOf (lotsOf types) x o = [])) = false from h0] at c; cases c)
    · rw [fm_filter] at hall
      refine w_tupD hH2 hall fun v H3 e3 iv => ?_
      exact k H3 v ((e1.trans e2).trans e3) iv
set_option maxHeartbeats 1000000 in
theorem cax_wrong_row (T : Txt P K mg C_Table C_Refused C_DeskError) : CalX P w K mg base 4 "wrong_row" (spWrong K C_Table C_Refused) := by
  refine mkCalX T.d_wrong_row sc_wrong_row (fun vs H Q E h => ?_) (fun f cdv A outer s H vs Q E hr h => ?_)
  · obtain ⟨t, vk, v, kn, types, stock, r, rfl, _⟩ := h; rfl
  · obtain ⟨t, vk, v, kn, types, stock, r, rfl, hT, hk, hs, hrt, hs0, hv, kE, kN⟩ := h
    refine ⟨_, (pss_cons (ps_set (i := 4) sc_wrong_row.nd rfl (by first | exact Or.inl rfl | exact Or.inr rfl) (C8.pe_c (cal_offered_kinds T) hr (by decide) rfl (pa_cons (pv 0) (pa_cons (pv 1) (pa_cons (pv 2) pa_nil)))))
 (C8.pss_cut (ps_if (PW.pt (pw_or (pt_not (pt_val (C8.pe_c (caa_is_number T) hr (by decide) rfl (pa_cons (pv 3) pa_nil)))) (pw_or1 (pt_cmpR (KP.op_notInXK K rfl hr.units) (pv 3) (pv 4) rfl))))
 (pss_one (KP.ps_raiseF (k := 0) T.sx_Refused hr (takes_of rfl rfl rfl rfl) rfl (pa_cons pe_str pa_nil)))
 pss_nil)
 (C8.pss_cut (ps_for (passes_of rfl) rfl (KP.pi_listK K rfl (pv 4)) (pg_name (i := 5) sc_wrong_row.nd rfl (by first | exact Or.inl rfl | exact Or.inr rfl))
 (pss_cons (ps_set (i := 6) sc_wrong_row.nd rfl (by first | exact Or.inl rfl | exact Or.inr rfl) (C8.pe_c (cal_takers_beside T) hr (by decide) rfl (pa_cons (pv 0) (pa_cons (pv 3) (pa_cons (pv 5) pa_nil)))))
 (pss_one (ps_if (pt_cmpR (KP.op_neXK K rfl hr.units) (pv 6) (pe_lst pa_nil) (nomark _))
 (pss_one (ps_ret (pe_op (KP.op_repDK K rfl) (pe_tup (pa_cons (pe_ix (KP.ix_listK K rfl) (pv 6) pe_int (fun _ _ => rfl)) pa_nil)) (C8.pe_c (cal_units_in T) hr (by decide) rfl (pa_cons (pv 1) (pa_cons (C8.pe_c (cal_accepted T) hr (by decide) rfl (pa_cons (pv 0) (pa_cons (pe_ix (KP.ix_listK K rfl) (pv 6) pe_int (fun _ _ => rfl)) pa_nil))) pa_nil))))))
 pss_nil))))
 (pss_one (ps_ret pe_non))))), ?_⟩
    (simp only [n_wrong_row, KP.st_cons, KP.st_nilc, KP.st_nil]); (try dsimp only [L2.cxOf, L2.Cx.nox, L2.Cx.wish])
    have ok := hT.ok
    have ok2 := ok.k2
    have okt := ok.t2
    have hhl : (handOf (lotsOf types) stock r).length ≤ 1000 := by
      unfold handOf
      refine Nat.le_trans (List.length_filter_le _ _) ?_
      obtain ⟨p, hp⟩ : ∃ p, types[r]? = some p := ⟨_, List.getElem?_eq_getElem hrt⟩
      rw [lotsOf_get hp]
      have := listB_len (ok.tl p (List.mem_of_getElem? hp))
      omega
    walk_at "kp"
    refine ⟨t, vk, kn, types, stock, r, rfl, hT, hk, hs, hrt, fun H1 p e1 hp0 hp => ?_⟩
    have hT1 := hT.kp e1 (by simp)
    obtain ⟨hand, hhand⟩ : ∃ hand, hand = handOf (lotsOf types) stock r := ⟨_, rfl⟩
    rw [← hhand] at hp hhl kE kN
    walk_at "kp"
    refine w_cut (fun σ' H' => H' = H1 ∧ σ' = [some (.ref t), some vk, some (.int r), some v, some (.ref p), none, none] ∧ ∃ z, v = .int z ∧ z ∈ hand) ?_ ?_
    · walk_at "kp"
      have raised : (OddV K H v ∨ ∃ z, v = .int z ∧ z ∉ hand) → tRaiseF C_Refused "word" (fun cls d σ H' => E cls d H') (tCons (tC (.str "kind")) tNil) ⟨fun σ' H' => H' = H1 ∧ σ' = [some (.ref t), some vk, some (.int r), some v, some (.ref p), none, none] ∧ ∃ z, v = .int z ∧ z ∈ hand, Q, (fun _ _ => False), (fun _ _ => False)⟩ [some (.ref t), some vk, some (.int r), some v, some (.ref p), none, none] H1 := fun ho =>
        ⟨.str "kind", rfl, fun d hd => kE ho _ d (e1.trans (Kp.new hd)) upd_same⟩
      rcases hv with ho | ⟨z, rfl⟩
      · refine ⟨v, rfl, .inl ⟨ho.kp e1, ?_⟩⟩
        walk_at "kp"
        exact raised (.inl ho)
      · refine ⟨_, rfl, .inr ⟨z, rfl, ?_⟩⟩
        walk_at "kp"
        by_cases hz : 0 ≤ z
        · rw [decide_eq_true hz]
          walk_at "kp"
          refine ⟨Int, inferInstance, inferInstance, z, hand, p, _, rfl, .inl (SqL.of hp), isAll_ints _, is_int _, by decide, ?_⟩
          walk_at "kp"
          rw [if_pos rfl]
          refine w_itN (fun hm => ?_) (fun hm => ?_)
          · exact raised (.inr ⟨z, rfl, hm⟩)
          · walk_at "kp"
            exact ⟨rfl, rfl, z, rfl, hm⟩
        · rw [decide_eq_false hz]
          walk_at "kp"
          refine raised (.inr ⟨z, rfl, fun hm => hz ?_⟩)
          rw [hhand] at hm
          exact (lot_rng ok (hand_mem.mp hm).1).1
    rintro σ' H' ⟨rfl, rfl, z, rfl, hz⟩
    obtain ⟨kN1, kN2⟩ := kN z rfl hz
    walk_at "kp"
    refine w_cut (fun σ' H2 => ∃ y5 y6, σ' = [some (.ref t), some vk, some (.int r), some (.int z), some (.ref p), y5, y6] ∧ Kp [] H H2 ∧ z ∈ leastOf (lotsOf types) hand) ?_ ?_
    · walk_at "kp"
      refine w_lpL (SqL.of hp) (fun i σ' H2 => ∃ y5 y6, σ' = [some (.ref t), some vk, some (.int r), some (.int z), some (.ref p), y5, y6] ∧ Kp [] H' H2 ∧ ∀ o ∈ hand.take i, besideOf (lotsOf types) z o = []) ⟨_, _, rfl, Kp.refl, by simp⟩ (fun i σ' H2 _ h => by obtain ⟨_, _, _, e, _⟩ := h; exact SqL.of (e.keep _ _ hp (by simp))) (fun i x σ' H2 hx h => ?_) (fun σ' H2 h => ?_)
      · obtain ⟨y5, y6, rfl, e2, hno⟩ := h
        obtain ⟨o, rfl, ho⟩ := int_at' hx
        have et : hand.take (i + 1) = hand.take i ++ [o] := by rw [List.take_add_one, ho]; rfl
        walk_at "kp"
        refine ⟨t, kn, types, z, o, rfl, hT1.kp e2 (by simp), fun H3 q e3 hq0 hq => ?_⟩
        walk_at "kp"
        intro zz hzz
        have e4 : Kp [] H3 (upd H3 zz (.lst [])) := Kp.new hzz
        have hq4 := e4.keep _ _ hq (by simp)
        refine w_neX (besideOf (lotsOf types) z o) ([] : List Int) (is_list (SqL.of hq4) (isAll_ints _)) (is_list (SqL.of upd_same) .nil) (by decide) ?_
        walk_at "kp"
        refine w_itN (fun hne => ?_) (fun he => ?_)
        · obtain ⟨u, rest, hb⟩ : ∃ u rest, besideOf (lotsOf types) z o = u :: rest := List.exists_cons_of_ne_nil hne
          have hu : u ∈ besideOf (lotsOf types) z o := by rw [hb]; exact List.mem_cons_self ..
          unfold besideOf at hu
          rw [List.mem_filter, decide_eq_true_eq] at hu
          obtain ⟨b, rfl, hbl, hzb⟩ := mem_takersI.mp hu.1
          have hob : o ∉ (lotsOf types).getD b [] := fun c => hu.2 (mem_takersI.mpr ⟨b, rfl, hbl, c⟩)
          have hbt : b < types.length := by simpa [lotsOf] using hbl
          obtain ⟨pb, hpb⟩ : ∃ p, types[b]? = some p := ⟨_, List.getElem?_eq_getElem hbt⟩
          have hom : o ∈ hand := List.mem_of_getElem? ho
          rw [hhand] at hz hom
          have W : WrongR (lotsOf types) stock r z b o := ⟨hz, hom, hbl, hzb, hob⟩
          have hBB : ∀ t ∈ lotsOf types, listB t stock.length = true := fun t ht => by
            obtain ⟨q, hq, rfl⟩ := List.mem_map.mp ht
            rw [hs]; exact ok.tl q hq
          have hu1 := wrong_units W hBB hs0
          have hlb := listB_len (hBB _ (getD_mem hbl))
          have hu2 := units_le hs0 ((lotsOf types).getD b [])
          rw [hb, List.map_cons] at hq4
          walk_at "kp"
          refine w_ixL (SqL.of hq4) (atI_of (Int.le_refl 0) rfl) ?_
          walk_at "kp"
          intro tt htt
          have e5 : Kp [] (upd H3 zz (.lst [])) (upd (upd H3 zz (.lst [])) tt (.tup [.int (b : Nat)])) := Kp.new htt
          have hq5 := e5.keep _ _ hq4 (by simp)
          have it : Is K (upd (upd H3 zz (.lst [])) tt (.tup [.int (b : Nat)])) (.ref tt) (Tup.mk [(b : Int)]) := is_tup (SqT.of upd_same) (.cons (is_int _) .nil)
          have e05 : Kp [] H' _ := ((e2.trans e3).trans e4).trans e5
          walk_at "kp"
          refine w_ixL (SqL.of hq5) (atI_of (Int.le_refl 0) rfl) ?_
          walk_at "kp"
          refine ⟨t, kn, types, b, pb, rfl, hT1.kp e05 (by simp), hpb, fun vl il => ?_⟩
          have il : Is K _ vl (Tup.mk pb.2.items) := il
          rw [← lotsOf_get hpb] at il
          walk_at "kp"
          refine ⟨vk, vl, stock, _, rfl, (hk.kp e1).kp e05, il, (listB_iff.mp (hBB _ (getD_mem hbl))).1, by omega, fun H6 e6 => ?_⟩
          obtain ⟨N, hN⟩ : ∃ N : Nat, unitsIn stock ((lotsOf types).getD b []) = N := ⟨_, (Int.toNat_of_nonneg (by omega)).symm⟩
          rw [hN] at hu1 hu2
          have kN2 := kN2
          rw [hN]
          refine w_repX (it.kp e6) (by omega) (by omega) fun w H7 e7 iw => ?_
          refine kN2 H7 w b o (((e1.trans e05).trans e6).trans e7) (fun hm => ?_) W (by rw [hN, Int.toNat_natCast]; exact iw)
          unfold leastOf at hm
          have := (List.mem_filter.mp hm).2
          rw [List.all_eq_true] at this
          exact hne (of_decide_eq_true (this o (List.mem_of_getElem? ho)))
        · walk_at "kp"
          refine ⟨_, _, rfl, (e2.trans e3).trans e4, fun o' ho' => ?_⟩
          rw [et] at ho'
          rcases List.mem_append.mp ho' with h | h
          · exact hno o' h
          · rw [List.mem_singleton.mp h]; exact he
      · obtain ⟨y5, y6, rfl, e2, hno⟩ := h
        rw [List.length_map, List.take_length] at hno
        refine ⟨y5, y6, rfl, e1.trans e2, List.mem_filter.mpr ⟨hz, ?_⟩⟩
        rw [List.all_eq_true]
        exact fun o ho => decide_eq_true (hno o ho)
    · rintro σ' H2 ⟨y5, y6, rfl, e2, hm⟩
      walk_at "kp"
      exact kN1 H2 e2 hm
end
end K85
namespace K85
open PySem PySem.Spec PyProof.Rows L2 KP
open PySem.W (Datum Tup DatumOrd)
open C8 (fnScope fnBody fnArgs fnScope_by)
section
variable {P : Program} {w : World} {K : PySem.W.Frag} {mg : Str → Option Value} {base : Heap} {C_Table C_Refused C_DeskError : Addr}
end
open FL
section
variable {P : Program} {w : World} {K : PySem.W.Frag} {mg : Str → Option Value} {base : Heap} {C_Table C_Refused C_DeskError : Addr}
theorem cal__law_is_number (T : Txt P K mg C_Table C_Refused C_DeskError) : C8.Cal P w K mg base 1 "_law_is_number" spLawNum [] := by
  refine mkCal T.d__law_is_number sc__law_is_number (fun vs H Q E h => ?_) (fun f cdv A outer s H vs Q E hr h => ?_)
  · obtain ⟨i, b, rfl, _⟩ := h; rfl
  · obtain ⟨i, b, rfl, k⟩ := h
    refine ⟨_, (pss_one (ps_ret (pe_and (pe_callB (KP.call_isiK' K rfl) rfl T.m_isinstance KP.bt_isinstance (pa_cons (pv 0) (pa_cons (KP.pe_ty rfl T.m_int KP.bt_int) pa_nil))) (pe_and (pe_not (pe_callB (KP.call_isiK' K rfl) rfl T.m_isinstance KP.bt_isinstance (pa_cons (pv 0) (pa_cons (KP.pe_ty rfl T.m_bool KP.bt_bool) pa_nil)))) (pe_one (pe_chain op_le op_lt pe_int (pv 0) (pv 1))))))), ?_⟩
    (simp only [n__law_is_number, KP.st_cons, KP.st_nilc, KP.st_nil]); (try dsimp only [L2.cxOf, L2.Cx.nox, L2.Cx.wish])
    walk_at "kp"
    by_cases h0 : 0 ≤ i
    · rw [decide_eq_true h0]
      walk_at "kp"
      have e : decide (i < b) = decide (0 ≤ i ∧ i < b) := decide_eq_decide.mpr ⟨fun h => ⟨h0, h⟩, fun h => h.2⟩
      rw [e]
      exact k
    · rw [decide_eq_false h0]
      walk_at "kp"
      rw [decide_eq_false (show ¬ (0 ≤ i ∧ i < b) from fun h => h0 h.1)] at k
      exact k
theorem cal__law_is_row (T : Txt P K mg C_Table C_Refused C_DeskError) : C8.Cal P w K mg base 2 "_law_is_row" (spIsRow K) [] := by
  refine mkCal T.d__law_is_row sc__law_is_row (fun vs H Q E h => ?_) (fun f cdv A outer s H vs Q E hr h => ?_)
  · obtain ⟨v, xs, b, rfl, _⟩ := h; rfl
  · obtain ⟨v, xs, b, rfl, hv, hl, hb, k⟩ := h
    refine ⟨_, (pss_one (ps_ret (pe_and (pe_callB (KP.call_isiK' K rfl) rfl T.m_isinstance KP.bt_isinstance (pa_cons (pv 0) (pa_cons (KP.pe_ty rfl T.m_tuple KP.bt_tuple) pa_nil))) (pe_one (pe_callB (KP.cr_allK K rfl rfl) rfl T.m_all KP.bt_all (pa_cons (pe_lc (own := [("one", 2)]) rfl sc__law_is_row.nd (KP.pi_tupK K rfl (pv 0))
 (blkOk_by (N := n__law_is_row) (sc := fnScope s__law_is_row) (by decide +kernel)) (fun _ _ _ _ _ => (pg_name (i := 2) sc__law_is_row.nd rfl (by first | exact Or.inl rfl | exact Or.inr rfl))) (fun _ _ _ _ _ => pts_nil) (fun _ _ _ _ _ => (C8.pe_c (cal__law_is_number T) hr (by decide) rfl (pa_cons (pv 2) (pa_cons (pv 1) pa_nil))))) pa_nil)))))), ?_⟩
    (simp only [n__law_is_row, KP.st_cons, KP.st_nilc, KP.st_nil]); (try dsimp only [L2.cxOf, L2.Cx.nox, L2.Cx.wish])
    obtain ⟨p, ps, rfl, hp, hpa⟩ := hv.tupm
    walk_at "kp"
    refine w_isiTT hp ?_
    walk_at "kp"
    refine w_lcTF hv (fun _ => some true) (by omega) (fun i x vx H1 QE QF hx ix e1 kE kF => ?_) (fun D ws H1 hD e1 hall hH1 => ?_)
    · have := ix.int
      subst this
      walk_at "kp"
      refine ⟨rfl, ?_⟩
      walk_at "kp"
      refine ⟨x, b, rfl, ?_⟩
      rw [decide_eq_true (hb x (List.mem_of_getElem? hx))]
      exact kE _ _ _ Kp.refl (is_bl _) rfl
    · have hw := hall.bls
      subst hw
      walk_at "kp"
      refine w_all (SqL.of hH1) ?_
      have : (List.filterMap (fun (_ : Int) => some true) xs).all id = true := by
        rw [fm_map, List.all_map, List.all_eq_true]
        intro _ _; rfl
      rw [this]
      exact k H1 e1
theorem cal__law_least (T : Txt P K mg C_Table C_Refused C_DeskError) : C8.Cal P w K mg base 1 "_law_least" (spLeastL K) [] := by
  refine mkCal T.d__law_least sc__law_least (fun vs H Q E h => ?_) (fun f cdv A outer s H vs Q E hr h => ?_)
  · obtain ⟨l, h, lots, hand, rfl, _⟩ := h; rfl
  · obtain ⟨l, ha, lots, hand, rfl, hlt, hh, hm, hn, k⟩ := h
    refine ⟨_, (pss_cons (ps_set (i := 2) sc__law_least.nd rfl (by first | exact Or.inl rfl | exact Or.inr rfl) (pe_lst pa_nil))
 (C8.pss_cut (ps_for PassesOwn.never rfl (KP.pi_listK K rfl (pv 1)) (pg_name (i := 3) sc__law_least.nd rfl (by first | exact Or.inl rfl | exact Or.inr rfl))
 (pss_cons (ps_setLc (i := 4) (own := [("lot", 5)]) rfl sc__law_least.nd rfl rfl (sw_true rfl rfl rfl (by decide +kernel)) (KP.pi_listK K rfl (pv 0))
 (blkOk_by (N := n__law_least) (sc := fnScope s__law_least) (by decide +kernel)) (fun _ _ _ _ _ => (pg_name (i := 5) sc__law_least.nd rfl (by first | exact Or.inl rfl | exact Or.inr rfl))) (fun _ _ _ _ _ => (pts_one (pt_cmpR (KP.op_inXK K rfl hr.units) (pv 3) (pv 5) rfl))) (fun _ _ _ _ _ => (pv 5)))
 (pss_one (ps_if (pt_val (pe_callB (KP.cr_allK K rfl rfl) rfl T.m_all KP.bt_all (pa_cons (pe_lc (own := [("lot", 5)]) rfl sc__law_least.nd (KP.pi_listK K rfl (pv 4))
 (blkOk_by (N := n__law_least) (sc := fnScope s__law_least) (by decide +kernel)) (fun _ _ _ _ _ => (pg_name (i := 5) sc__law_least.nd rfl (by first | exact Or.inl rfl | exact Or.inr rfl))) (fun _ _ _ _ _ => pts_nil) (fun _ _ _ _ _ => (pe_callB (KP.cr_allK K rfl rfl) rfl T.m_all KP.bt_all (pa_cons (pe_lc (own := [("other", 6)]) rfl sc__law_least.nd (KP.pi_listK K rfl (pv 1))
 (blkOk_by (N := n__law_least) (sc := relS _ (fnScope s__law_least)) (by decide +kernel)) (fun _ _ _ _ _ => (pg_name (i := 6) sc__law_least.nd rfl (by first | exact Or.inl rfl | exact Or.inr rfl))) (fun _ _ _ _ _ => pts_nil) (fun _ _ _ _ _ => (pe_cmpR (KP.op_inXK K rfl hr.units) (pv 6) (pv 5) rfl))) pa_nil)))) pa_nil)))
 (pss_one (ps_expr (KP.pe_bmK K rfl PySem.F.plainAttrs_list PySem.F.slot_list_append PySem.F.type_list_append mt_append (pv 2) (pa_cons (pv 3) pa_nil))))
 pss_nil))))
 (pss_one (ps_ret (pv 2))))), ?_⟩
    (simp only [n__law_least, KP.st_cons, KP.st_nilc, KP.st_nil]); (try dsimp only [L2.cxOf, L2.Cx.nox, L2.Cx.wish])
    have hlt' := hlt
    obtain ⟨ws, hws, hwa⟩ := hlt'
    walk_at "kp"
    intro F hF
    have e1 : Kp [] H (upd H F (.lst [])) := Kp.new hF
    walk_at "kp"
    refine w_cut (fun σ' H' => ∃ (y3 y4 y5 y6 : Option V), σ' = [some (.ref l), some (.ref ha), some (.ref F), y3, y4, y5, y6] ∧ Kp [] H H' ∧ H' F = some (.lst ((leastL lots hand).map V.int))) ?_ ?_
    · walk_at "kp"
      refine w_lpL (e1.sqL hh (by simp)) (fun i σ' H' => ∃ (y3 y4 y5 y6 : Option V), σ' = [some (.ref l), some (.ref ha), some (.ref F), y3, y4, y5, y6] ∧ Kp [] H H' ∧ H' F = some (.lst (((hand.take i).filter fun k => (lots.filter fun lot => decide (k ∈ lot)).all fun lot => hand.all fun o => decide (o ∈ lot)).map V.int)))
        ⟨_, _, _, _, rfl, e1, upd_same⟩ (fun i σ' H' _ h => by obtain ⟨_, _, _, _, _, e, _⟩ := h; exact e.sqL hh (by simp)) (fun i x σ' H2 hx h => ?_) (fun σ' H2 h => ?_)
      · obtain ⟨y3, y4, y5, y6, rfl, e2, hF2⟩ := h
        obtain ⟨kd, rfl, hkd⟩ := int_at' hx
        have et : hand.take (i + 1) = hand.take i ++ [kd] := by rw [List.take_add_one, hkd]; rfl
        walk_at "kp"
        refine w_lcLF (e2.sqL hws (by simp)) (hwa.kp e2) (fun lot => if decide (kd ∈ lot.items) then some lot else none) (by simp [tups]; omega) (fun j t vt H3 QE QF ht it e3 kE kF => ?_) (fun D us H3 hD e3 hall hH3 => ?_)
        · obtain ⟨la, lws, rfl, hla2, hlaa⟩ := it.tup
          walk_at "kp"
          refine ⟨rfl, ?_⟩
          walk_at "kp"
          refine ⟨Int, inferInstance, inferInstance, kd, t.items, la, lws, rfl, .inr hla2, hlaa, is_int _, by decide, ?_⟩
          walk_at "kp"
          refine w_itD (fun hm => ?_) (fun hm => ?_)
          · walk_at "kp"
            exact kE _ t _ Kp.refl it (if_pos (decide_eq_true hm))
          · exact kF _ Kp.refl (if_neg (by rw [decide_eq_false hm]; decide))
        · rw [fm_filter] at hall
          have e03 := e2.trans e3
          walk_at "kp"
          refine w_lcLF (SqL.of hH3) hall (fun lot => some (hand.all fun o => decide (o ∈ lot.items))) (by refine Nat.le_trans (List.length_filter_le _ _) ?_; simp [tups]; omega) (fun j t vt H4 QE QF ht it e4 kE kF => ?_) (fun D4 us4 H4 hD4 e4 hall4 hH4 => ?_)
          · obtain ⟨la, lws, rfl, hla2, hlaa⟩ := it.tup
            walk_at "kp"
            refine ⟨rfl, ?_⟩
            walk_at "kp"
            refine w_lcLF ((e03.trans e4).sqL hh (by simp)) (isAll_ints _) (fun o => some (decide (o ∈ t.items))) (by omega) (fun j5 o vo H5 QE5 QF5 ho io e5 kE5 kF5 => ?_) (fun D5 us5 H5 hD5 e5 hall5 hH5 => ?_)
            · have := io.int
              subst this
              walk_at "kp"
              refine ⟨rfl, ?_⟩
              walk_at "kp"
              refine ⟨Int, inferInstance, inferInstance, o, t.items, la, lws, rfl, .inr (e5.sqT hla2), hlaa.kp e5, is_int _, by decide, ?_⟩
              exact kE5 _ _ _ Kp.refl (is_bl _) rfl
            · have hw := hall5.bls
              subst hw
              rw [fm_map] at hH5
              walk_at "kp"
              refine w_all (SqL.of hH5) ?_
              rw [List.all_map]
              exact kE _ _ _ e5 (is_bl _) rfl
          · have hw := hall4.bls
            subst hw
            rw [fm_map] at hH4
            walk_at "kp"
            refine w_all (SqL.of hH4) ?_
            walk_at "kp"
            have hF4 := (e3.trans e4).keep _ _ hF2 (by simp)
            have hall_eq : ((List.filter (fun x => decide (kd ∈ x.items)) (tups lots)).map fun lot => hand.all fun o => decide (o ∈ lot.items)).all id = (lots.filter fun lot => decide (kd ∈ lot)).all fun lot => hand.all fun o => decide (o ∈ lot) := by
              unfold tups
              rw [List.filter_map, List.map_map, List.all_map]
              rfl
            rw [hall_eq]
            refine w_itB (fun h0 => ?_) (fun h0 => ?_)
            · walk_at "kp"
              refine w_bmL hF4 ?_
              walk_at "kp"
              refine w_append hF4 (by rw [sizeLine_eq, List.length_map]; have := List.length_filter_le (fun k => (lots.filter fun lot => decide (k ∈ lot)).all fun lot => hand.all fun o => decide (o ∈ lot)) (hand.take i); have : (hand.take i).length ≤ hand.length := (by rw [List.length_take]; omega); omega) ?_
              walk_at "kp"
              refine ⟨_, _, _, _, rfl, (e03.trans e4).mut hF, ?_⟩
              rw [upd_same, et, List.filter_append, List.map_append]
              simp only [List.filter_cons, List.filter_nil, h0, if_true]
              rfl
            · walk_at "kp"
              refine ⟨_, _, _, _, rfl, e03.trans e4, ?_⟩
              rw [hF4, et, List.filter_append]
              simp only [List.filter_cons, List.filter_nil, h0]
              simp
      · obtain ⟨y3, y4, y5, y6, rfl, e2, hF2⟩ := h
        rw [List.length_map, List.take_length] at hF2
        exact ⟨y3, y4, y5, y6, rfl, e2, hF2⟩
    · rintro σ' H2 ⟨y3, y4, y5, y6, rfl, e2, hF2⟩
      walk_at "kp"
      exact k H2 F e2 hF hF2
theorem cal__law_refused (T : Txt P K mg C_Table C_Refused C_DeskError) : C8.Cal P w K mg base 5 "_law_refused" (spRefK K C_Table) [] := by
  refine mkCal T.d__law_refused sc__law_refused (fun vs H Q E h => ?_) (fun f cdv A outer s H vs Q E hr h => ?_)
  · obtain ⟨t, vk, v, kn, types, stock, r, rfl, _⟩ := h; rfl
  · obtain ⟨t, vk, v, kn, types, stock, r, rfl, hT, hk, hs, hrt, hs0, hv, k⟩ := h
    refine ⟨_, (pss_cons (ps_try_as (i := 4) rfl rfl sc__law_refused.nd rfl rfl ⟨rfl, by decide, .inl T.gC_DeskError⟩ KP.takesF (fun W pn xe tk ps => (pss_one (ps_expr (KP.pe_cx (cax_wrong_row T) tk hr (by decide) rfl (pa_cons (pv 0) (pa_cons (pv 1) (pa_cons (pv 2) (pa_cons (pv 3) pa_nil))))))))
 (fun ea eo ecl ed epn hz hf => (pss_one (ps_ret (pe_and (pe_callB (KP.call_isA hz hf) rfl T.m_isinstance KP.bt_isinstance (pa_cons (pv 4) (pa_cons (pe_glob (v := .ref C_Refused) rfl T.gC_Refused rfl) pa_nil))) (pe_and (pe_callB (KP.call_isiK' K rfl) rfl T.m_isinstance KP.bt_isinstance (pa_cons (KP.pe_xg hz hf (pv 4)) (pa_cons (KP.pe_ty rfl T.m_str KP.bt_str) pa_nil))) (pe_one (pe_cmpR op_eq (KP.pe_xg hz hf (pv 4)) pe_str (nomark _)))))))))
 (pss_one (ps_ret pe_bl))), ?_⟩
    (simp only [n__law_refused, KP.st_cons, KP.st_nilc, KP.st_nil]); (try dsimp only [L2.cxOf, L2.Cx.nox, L2.Cx.wish])
    refine w_seq ?_
    walk_at "kp"
    refine ⟨t, vk, v, kn, types, stock, r, rfl, hT, hk, hs, hrt, hs0, hv.imp id (fun ⟨z, h, _⟩ => ⟨z, h⟩), fun _ H1 d e1 hd => ?_, fun z hz hm => ?_⟩
    · refine w_wAs T.te_Refused_DeskError fun a ha => ?_
      walk_at "kp"
      refine w_isA T.ed_Refused hd ?_
      walk_at "kp"
      refine w_xgV T.sx_Refused hd ?_
      walk_at "kp"
      refine w_isiSS ?_
      walk_at "kp"
      refine w_xgV T.sx_Refused hd ?_
      walk_at "kp"
      refine w_eqS ?_
      rw [decide_eq_true rfl]
      exact k H1 e1
    · exfalso
      rcases hv with ho | ⟨z', rfl, hz'⟩
      · rcases ho with rfl | ⟨b, rfl⟩ | ⟨s, rfl⟩ | ⟨p, xs, rfl, _⟩ <;> cases hz
      · cases hz; exact hz' hm
end
end K85
namespace K85
open PySem PySem.Spec PyProof.Rows L2 KP
open PySem.W (Datum Tup DatumOrd)
open C8 (fnScope fnBody fnArgs fnScope_by)
section
variable {P : Program} {w : World} {K : PySem.W.Frag} {mg : Str → Option Value} {base : Heap} {C_Table C_Refused C_DeskError : Addr}
end
open FL
theorem e1_add (b : Nat) (x y : Int) (u : Nat) : e1 b x u + e1 b y u = e1 b (x + y) u := by
  unfold e1
  split <;> omega
theorem rep_take {b : Int} {N i : Nat} {x : V} (h : ((List.replicate N b).map V.int)[i]? = some x) : x = .int b ∧ i < N := by
  rw [List.map_replicate, List.getElem?_replicate] at h
  split at h
  · exact ⟨(Option.some.inj h).symm, by assumption⟩
  · cases h
section
variable {P : Program} {w : World} {K : PySem.W.Frag} {mg : Str → Option Value} {base : Heap} {C_Table C_Refused C_DeskError : Addr}
set_option maxHeartbeats 2000000 in
theorem cal__law_shows (T : Txt P K mg C_Table C_Refused C_DeskError) : C8.Cal P w K mg base 3 "_law_shows" (spShows K) [] := by
  refine mkCal T.d__law_shows sc__law_shows (fun vs H Q E h => ?_) (fun f cdv A outer s H vs Q E hr h => ?_)
  · obtain ⟨l, vk, vp, vr, lots, stock, r, b, kd, od, rfl, _⟩ := h; rfl
  · obtain ⟨l, vk, vp, vr, lots, stock, r, b, kd, od, rfl, hlt, hlx, hvk, hvp, hvr, hm, hn, hB, hs0, hrl, W, k⟩ := h
    refine ⟨_, (pss_cons (ps_asg (pv 2) (KP.pg_tupK (n := 2) K rfl rfl (pgs_cons (pg_name (i := 4) sc__law_shows.nd rfl (by first | exact Or.inl rfl | exact Or.inr rfl)) (pgs_cons (pg_name (i := 5) sc__law_shows.nd rfl (by first | exact Or.inl rfl | exact Or.inr rfl)) pgs_nil))))
 (pss_cons (ps_par3 (i := 6) (j := 7) (l := 8) rfl sc__law_shows.nd rfl rfl rfl (by decide) (by decide) (by decide) rfl rfl rfl (pa_cons (C8.pe_c (cal__law_start T) hr (by decide) rfl (pa_cons (pv 0) (pa_cons (pv 1) pa_nil))) (pa_cons (C8.pe_c (cal__law_start T) hr (by decide) rfl (pa_cons (pv 0) (pa_cons (pv 1) pa_nil))) (pa_cons (pe_lst (pa_cons pe_dnewK (pa_cons pe_dnewK pa_nil))) pa_nil))) rfl)
 (pss_cons (ps_asg (pe_op op_sub (pe_ix (KP.ix_listK K rfl) (pe_ix (KP.ix_listK K rfl) (pv 7) pe_int (fun _ _ => rfl)) (pv 5) (fun _ _ => rfl)) pe_int) (pg_sub (pe_ix (KP.ix_listK K rfl) (pv 7) pe_int (fun _ _ => rfl)) (pv 5) set_list))
 (pss_cons (ps_set (i := 9) sc__law_shows.nd rfl (by first | exact Or.inl rfl | exact Or.inr rfl) (pe_lst (pa_cons (pe_callTy KP.cq_int rfl T.m_int KP.bt_int (pa_cons (C8.pe_c (cal__law_add T) hr (by decide) rfl (pa_cons (pv 0) (pa_cons (pv 6) (pa_cons (pv 4) pa_nil)))) pa_nil)) (pa_cons pe_int pa_nil))))
 (C8.pss_cut (ps_for PassesOwn.never rfl (KP.pi_tupK K rfl (pv 3)) (pg_name (i := 10) sc__law_shows.nd rfl (by first | exact Or.inl rfl | exact Or.inr rfl))
 (C8.pss_cut (ps_for PassesOwn.never rfl (pi_range1 rfl T.m_range (pa_cons pe_int pa_nil)) (pg_name (i := 11) sc__law_shows.nd rfl (by first | exact Or.inl rfl | exact Or.inr rfl))
 (pss_one (ps_if (pt_cmp (pc_dnotin (hu_of hr) (pv 10) (pe_ix (KP.ix_listK K rfl) (pv 8) (pv 11) (fun _ _ => rfl))))
 (pss_one (ps_if (pt_val (C8.pe_c (cal__law_add T) hr (by decide) rfl (pa_cons (pv 0) (pa_cons (pe_ix (KP.ix_listK K rfl) (pe_lst (pa_cons (pv 6) (pa_cons (pv 7) pa_nil))) (pv 11) (fun _ _ => rfl)) (pa_cons (pv 10) pa_nil)))))
 (pss_one (ps_asg (pe_op op_add (pe_ix (KP.ix_listK K rfl) (pv 9) (pv 11) (fun _ _ => rfl)) pe_int) (pg_sub (pv 9) (pv 11) set_list)))
 (pss_cons (ps_set (i := 12) sc__law_shows.nd rfl (by first | exact Or.inl rfl | exact Or.inr rfl) (pe_ix (KP.ix_listK K rfl) (pv 8) (pv 11) (fun _ _ => rfl)))
 (pss_one (ps_dput (hu_of hr) (pv 12) (pv 10) pe_bl rfl)))))
 pss_nil)))
 (pss_one (ps_if (pt_cmpR op_lt (pe_ix (KP.ix_listK K rfl) (pv 9) pe_int (fun _ _ => rfl)) (pe_ix (KP.ix_listK K rfl) (pv 9) pe_int (fun _ _ => rfl)) (nomark _))
 (pss_one (ps_ret pe_bl))
 pss_nil))))
 (pss_one (ps_ret pe_bl))))))), ?_⟩
    (simp only [n__law_shows, KP.st_cons, KP.st_nilc, KP.st_nil]); (try dsimp only [L2.cxOf, L2.Cx.nox, L2.Cx.wish])
    have hlt' := hlt
    obtain ⟨ws, hws, hwa⟩ := hlt'
    have hwl : ws.length = lots.length := by rw [hwa.length]; simp [tups]
    obtain ⟨pk, pks, rfl, hpk, hpka⟩ := hvk.tupm
    have := hpka.ints
    subst this
    obtain ⟨pp, u1, u2, rfl, hpp, iu1, iu2⟩ := hvp.pair
    have := iu1.int
    subst this
    have := iu2.int
    subst this
    obtain ⟨pr, prs, rfl, hpr, hpra⟩ := hvr.tupm
    have := hpra.ints
    subst this
    obtain ⟨hk1, hk2⟩ := hand_mem.mp W.hk
    obtain ⟨ho1, ho2⟩ := hand_mem.mp W.ho
    have hBb := hB _ (getD_mem W.hb)
    have hBr := hB _ (getD_mem hrl)
    obtain ⟨kn, rfl⟩ : ∃ kn : Nat, kd = (kn : Int) := ⟨kd.toNat, by have := (listB_iff.mp hBb).1 kd W.kb; omega⟩
    obtain ⟨on, rfl⟩ : ∃ kn : Nat, od = (kn : Int) := ⟨od.toNat, by have := (listB_iff.mp hBr).1 od ho1; omega⟩
    have hkl : kn < stock.length := by have := (listB_iff.mp hBb).1 _ W.kb; omega
    have hol : on < stock.length := by have := (listB_iff.mp hBr).1 _ ho1; omega
    rw [Int.toNat_natCast] at hk2 ho2
    obtain ⟨z, hz⟩ : ∃ z, stock[kn]? = some z := ⟨_, List.getElem?_eq_getElem hkl⟩
    have hzd : gD stock kn = z := gD_get hz
    have hz1 : 0 < z := by rw [← hzd]; exact hk2
    have hs1 : ∀ k, k < stock.length → 0 ≤ gD stock k := fun k hk => by
      rw [gD_get (List.getElem?_eq_getElem hk)]; exact (hs0 _ (List.getElem_mem _)).1
    have hu1 := wrong_units W hB hs0
    have hu2 := units_le hs0 (lots.getD b [])
    have hlb := listB_len hBb
    obtain ⟨N, hN⟩ : ∃ N : Nat, unitsIn stock (lots.getD b []) = N := ⟨_, (Int.toNat_of_nonneg (by omega)).symm⟩
    rw [hN] at hpr hu1 hu2
    rw [Int.toNat_natCast] at hpr
    clear hvk hvr hpka hpra hvp
    walk_at "kp"
    refine w_gTup hpp rfl ?_
    walk_at "kp"
    refine ⟨l, pk, ws, stock, rfl, hws, by omega, .inr hpk, hn, fun H1 S1 L1 G1 gs1 e1' St1 hfr1 => ?_⟩
    rw [hwl] at St1
    walk_at "kp"
    refine ⟨l, pk, ws, stock, rfl, e1'.sqL hws (by simp), by omega, .inr (e1'.sqT hpk), hn, fun H2 S2 L2 G2 gs2 e2' St2 hfr2 => ?_⟩
    rw [hwl] at St2
    have St1b := St1.kp e2' (by simp)
    walk_at "kp"
    intro D0 hD0
    walk_at "kp"
    intro D1 hD1
    walk_at "kp"
    intro Gn hGn
    have e3' : Kp [] H2 (upd (upd (upd H2 D0 (.dK [])) D1 (.dK [])) Gn (.lst [.ref D0, .ref D1])) := ((Kp.new hD0).trans (Kp.new hD1)).trans (Kp.new hGn)
    have n01 : D0 ≠ D1 := ne_of_none upd_same hD1
    have n0G : D0 ≠ Gn := ne_of_none (by rw [upd_ne n01]; exact upd_same) hGn
    have n1G : D1 ≠ Gn := ne_of_none upd_same hGn
    have hd0 : (upd (upd (upd H2 D0 (.dK [])) D1 (.dK [])) Gn (.lst [.ref D0, .ref D1])) D0 = some (.dK (dB [])) := by rw [upd_ne n0G, upd_ne n01]; exact upd_same
    have hd1 : (upd (upd (upd H2 D0 (.dK [])) D1 (.dK [])) Gn (.lst [.ref D0, .ref D1])) D1 = some (.dK (dB [])) := by rw [upd_ne n1G]; exact upd_same
    have hgn : (upd (upd (upd H2 D0 (.dK [])) D1 (.dK [])) Gn (.lst [.ref D0, .ref D1])) Gn = some (.lst [.ref D0, .ref D1]) := upd_same
    have hD1' : H2 D1 = none := (Kp.new (M := []) (o := HO.dK []) hD0).free hD1
    have hGn' : H2 Gn = none := ((Kp.new (M := []) (o := HO.dK []) hD0).trans (Kp.new (o := HO.dK []) hD1)).free hGn
    generalize upd (upd (upd H2 D0 (.dK [])) D1 (.dK [])) Gn (.lst [.ref D0, .ref D1]) = H3 at e3' hd0 hd1 hgn ⊢
    have St1c := St1b.kp e3' (by simp)
    have St2c := St2.kp e3' (by simp)
    clear hD1 hGn
    -- less[0][kind] = less[0][kind] - 1
    walk_at "kp"
    refine w_ixL (SqL.of St2c.hS) (by rfl) ?_
    walk_at "kp"
    refine w_ixL (SqL.of St2c.hL) (v := .int z) (atI_nat (by rw [List.getElem?_map, hz]; rfl)) ?_
    walk_at "kp"
    refine w_ixL (SqL.of St2c.hS) (by rfl) ?_
    walk_at "kp"
    refine w_setL St2c.hL (j := kn) (by rw [List.length_map]; exact ixN_nat hkl) ?_
    rw [show (stock.map V.int).set kn (.int (z - 1)) = (stock.set kn (z - 1)).map V.int by rw [List.map_set]]
    have St2d := St2c.setL (left' := stock.set kn (z - 1)) (by simp)
    have eL : Kp [L2] H3 (upd H3 L2 (.lst ((stock.set kn (z - 1)).map V.int))) := Kp.set St2c.hL rfl (by simp)
    have fr2 : ∀ x ∈ S2 :: L2 :: G2 :: gs2, H x = none := fun x hx => e1'.free (hfr2 x hx)
    have n12 : ∀ x ∈ S1 :: L1 :: G1 :: gs1, x ∉ S2 :: L2 :: G2 :: gs2 := fun x hx hx2 => by
      obtain ⟨o, ho⟩ := St1.ex x hx
      rw [hfr2 x hx2] at ho; cases ho
    have hexB : ∀ x, x ∈ S1 :: L1 :: G1 :: gs1 ∨ x ∈ S2 :: L2 :: G2 :: gs2 → ∃ o, H2 x = some o := fun x hx => hx.elim (St1b.ex x) (St2.ex x)
    have e03 : Kp [] H H3 := (e1'.trans e2').trans e3'
    have e04 : Kp [] H (upd H3 L2 (.lst ((stock.set kn (z - 1)).map V.int))) := e03.mut (fr2 L2 (by simp))
    have hL2l : l ≠ L2 := by obtain ⟨o, ho⟩ := hlx; exact ne_of_none ho (fr2 L2 (by simp))
    have St1d := St1c.kp eL (fun x hx => by simpa using fun e : x = L2 => n12 x hx (by rw [e]; simp))
    have nb2 : ∀ y, H2 y = none → L2 ≠ y := fun y hy => by
      obtain ⟨o, ho⟩ := hexB L2 (.inr (by simp))
      exact ne_of_none ho hy
    have hd0 := eL.keep _ _ hd0 (by simpa using (nb2 _ hD0).symm)
    have hd1 := eL.keep _ _ hd1 (by simpa using (nb2 _ hD1').symm)
    have hgn := eL.keep _ _ hgn (by simpa using (nb2 _ hGn').symm)
    have hlt4 := hlt.kp e04 (by simp)
    have W1 : WayOk K (upd H3 L2 (.lst ((stock.set kn (z - 1)).map V.int))) l S1 L1 G1 gs1 lots stock (List.replicate lots.length (List.replicate stock.length 0)) :=
      ⟨St1d, hlt4, by rw [List.length_replicate], hm, hn, fun t ht x hx => (listB_iff.mp (hB t ht)).1 x hx, fun t ht => by have := listB_len (hB t ht); omega, hs1⟩
    have hs2 : ∀ x ∈ stock.set kn (z - 1), 0 ≤ x := fun x hx => by
      rcases List.mem_or_eq_of_mem_set hx with h | h
      · exact (hs0 x h).1
      · omega
    have W2 : WayOk K (upd H3 L2 (.lst ((stock.set kn (z - 1)).map V.int))) l S2 L2 G2 gs2 lots (stock.set kn (z - 1)) (List.replicate lots.length (List.replicate stock.length 0)) :=
      ⟨St2d, hlt4, by rw [List.length_replicate], hm, by simpa using hn, fun t ht x hx => by rw [List.length_set]; exact (listB_iff.mp (hB t ht)).1 x hx, fun t ht => by have := listB_len (hB t ht); omega, fun j hj => by
        rw [gD_get (List.getElem?_eq_getElem hj)]; exact hs2 _ (List.getElem_mem _)⟩
    have So1 : SOk lots.length stock.length (accL lots) (gD stock) (gG (List.replicate lots.length (List.replicate stock.length 0))) (gD stock) (fun _ => 0) := sok_zero rfl fun x hx => (hs0 x hx).1
    have So2 : SOk lots.length stock.length (accL lots) (gD (stock.set kn (z - 1))) (gG (List.replicate lots.length (List.replicate stock.length 0))) (gD (stock.set kn (z - 1))) (fun _ => 0) := sok_zero (by simp) hs2
    generalize upd H3 L2 (.lst ((stock.set kn (z - 1)).map V.int)) = H4 at W1 W2 hd0 hd1 hgn e04 hlt4 ⊢
    clear eL St2d St1d St1c St2c e3'
    -- counts
    have hlM1 : l ∉ L1 :: gs1 := fun m => by
      obtain ⟨o, ho⟩ := hlx
      have : H l = none := hfr1 l (by rcases List.mem_cons.mp m with e | m; simp [e]; simp [m])
      rw [ho] at this; cases this
    have hlM2 : l ∉ L2 :: gs2 := fun m => by
      obtain ⟨o, ho⟩ := hlx
      have : H l = none := fr2 l (by rcases List.mem_cons.mp m with e | m; simp [e]; simp [m])
      rw [ho] at this; cases this
    walk_at "kp"
    refine ⟨l, S1, L1, G1, gs1, lots, stock, _, r, rfl, W1, hlM1, hrl, fun H5 T5 e5 hcl hT => ?_, fun H5 left' gives' e5 W5 hl5 hS5 => ?_⟩
    · exact ((full_of So1 hcl hrl hT).no ((So1.first hrl hol ho1).last hol ho2)).elim
    walk_at "kp"
    intro Cn hCn
    have hMf1 : ∀ x ∈ L1 :: gs1, x ∈ ([] : List Addr) ∨ H x = none := fun x m => .inr (hfr1 x (by rcases List.mem_cons.mp m with e | m; simp [e]; simp [m]))
    have e05 : Kp [] H H5 := e04.hide e5 hMf1
    have nn1 : ∀ y, H2 y = none → y ∉ L1 :: gs1 := fun y hy m => by
      obtain ⟨o, ho⟩ := hexB y (.inl (by rcases List.mem_cons.mp m with e | m; simp [e]; simp [m]))
      rw [hy] at ho; cases ho
    have m12 : ∀ x ∈ S2 :: L2 :: G2 :: gs2, x ∉ L1 :: gs1 := fun x hx m => n12 x (by rcases List.mem_cons.mp m with e | m; simp [e]; simp [m]) hx
    have W2 := W2.kp e5 m12 hlM1
    have hd0 := e5.keep _ _ hd0 (nn1 _ hD0)
    have hd1 := e5.keep _ _ hd1 (nn1 _ hD1')
    have hgn := e5.keep _ _ hgn (nn1 _ hGn')
    have eC : Kp [] H5 (upd H5 Cn (.lst [.int (if true = true then 1 else 0), .int 1])) := Kp.new hCn
    have a : Ad H l (S1 :: L1 :: G1 :: gs1) (S2 :: L2 :: G2 :: gs2) D0 D1 Gn Cn :=
      ⟨hlx, hfr1, fr2, n12, fun x hx => by
        obtain ⟨o, ho⟩ := hexB x hx
        refine ⟨ne_of_none ho hD0, ne_of_none ho hD1', ne_of_none ho hGn', ?_⟩
        rcases hx with h | h
        · obtain ⟨o, ho⟩ := W5.st.ex x h; exact ne_of_none ho hCn
        · obtain ⟨o, ho⟩ := W2.st.ex x h; exact ne_of_none ho hCn,
       ⟨(e1'.trans e2').free hD0, (e1'.trans e2').free hD1', (e1'.trans e2').free hGn', e05.free hCn⟩, n01, n0G, ne_of_none hd0 hCn, n1G, ne_of_none hd1 hCn, ne_of_none hgn hCn⟩
    have I0 : ShI K H (upd H5 Cn (.lst [.int (if true = true then 1 else 0), .int 1])) l S1 L1 G1 gs1 S2 L2 G2 gs2 D0 D1 Gn Cn lots stock (stock.set kn (z - 1)) r b 0 0 1 1 [] :=
      ⟨e05.trans eC, ⟨left', gives', W5.kp eC (by simp) (by simp), hl5, (hS5 _ _ So1).ext (fun _ _ => rfl) (fun _ _ _ _ => rfl) (fun _ _ => rfl) fun u _ => by show FL.e1 r 1 u + FL.e1 b 0 u = 0 + FL.e1 r 1 u; unfold FL.e1; split <;> split <;> omega⟩,
       ⟨_, _, W2.kp eC (by simp) (by simp), by simp, So2.ext (fun _ _ => rfl) (fun _ _ _ _ => rfl) (fun _ _ => rfl) fun u _ => by show FL.e1 b 0 u = 0; unfold FL.e1; split <;> rfl⟩,
       upd_same, eC.keep _ _ hgn (by simp), eC.keep _ _ hd0 (by simp), eC.keep _ _ hd1 (by simp)⟩
    generalize upd H5 Cn (.lst [.int (if true = true then 1 else 0), .int 1]) = H6 at I0 ⊢
    clear eC hd0 hd1 hgn W2 W5 W1 So1 So2 hS5 e5 e05 hCn St1 St2 St1b hexB nb2 nn1
    have hpr6 : ∀ {H' : Hp}, Kp [] H H' → SqT K H' pr ((List.replicate N (b : Int)).map V.int) := fun e => e.sqT hpr
    have hcontra : ∀ {H' : Hp} {c0 c1 : Int}, ShI K H H' l S1 L1 G1 gs1 S2 L2 G2 gs2 D0 D1 Gn Cn lots stock (stock.set kn (z - 1)) r b N N c0 c1 [] → False := fun I => by
      obtain ⟨l2, gi2, _, _, o2⟩ := I.w2
      have := few_of o2 W.hb
      rw [units_less hBb W.kb hz, hN, e1_self] at this
      omega
    walk_at "kp"
    refine w_cut (fun _ _ => False) ?_ (fun _ _ h => h.elim)
    · walk_at "kp"
      refine w_lpT (hpr6 I0.e) (fun i σ' H' => ∃ (y10 y11 y12 : Option V), σ' = [some (.ref l), some (.ref pk), some (.ref pp), some (.ref pr), some (.int r), some (.int kn), some (.ref S1), some (.ref S2), some (.ref Gn), some (.ref Cn), y10, y11, y12] ∧ ShI K H H' l S1 L1 G1 gs1 S2 L2 G2 gs2 D0 D1 Gn Cn lots stock (stock.set kn (z - 1)) r b i i (i + 1) (i + 1) [])
        ⟨_, _, _, rfl, (by rw [show ((0 : Nat) : Int) + 1 = 1 from rfl]; exact I0)⟩ (fun i σ' H' _ h => by obtain ⟨_, _, _, _, I⟩ := h; exact hpr6 I.e) (fun i x σ' H7 hx h => ?_) (fun σ' H7 h => ?_)
      · obtain ⟨y10, y11, y12, rfl, I⟩ := h
        obtain ⟨rfl, hi⟩ := rep_take hx
        walk_at "kp"
        refine w_cut (fun σ' H' => ∃ (y11 y12 : Option V), σ' = [some (.ref l), some (.ref pk), some (.ref pp), some (.ref pr), some (.int r), some (.int kn), some (.ref S1), some (.ref S2), some (.ref Gn), some (.ref Cn), some (.int b), y11, y12] ∧
          (ShI K H H' l S1 L1 G1 gs1 S2 L2 G2 gs2 D0 D1 Gn Cn lots stock (stock.set kn (z - 1)) r b (i + 1) (i + 1) (i + 2) (i + 2) [] ∨ ShI K H H' l S1 L1 G1 gs1 S2 L2 G2 gs2 D0 D1 Gn Cn lots stock (stock.set kn (z - 1)) r b (i + 1) i (i + 2) (i + 1) [b])) ?_ ?_
        · walk_at "kp"
          refine w_lpR1 2 rfl (by decide) (fun sd σ' H' => ∃ (y11 y12 : Option V), σ' = [some (.ref l), some (.ref pk), some (.ref pp), some (.ref pr), some (.int r), some (.int kn), some (.ref S1), some (.ref S2), some (.ref Gn), some (.ref Cn), some (.int b), y11, y12] ∧
            ((sd = 0 ∧ ShI K H H' l S1 L1 G1 gs1 S2 L2 G2 gs2 D0 D1 Gn Cn lots stock (stock.set kn (z - 1)) r b i i (i + 1) (i + 1) []) ∨ (sd = 1 ∧ ShI K H H' l S1 L1 G1 gs1 S2 L2 G2 gs2 D0 D1 Gn Cn lots stock (stock.set kn (z - 1)) r b (i + 1) i (i + 2) (i + 1) []) ∨
             (sd = 2 ∧ (ShI K H H' l S1 L1 G1 gs1 S2 L2 G2 gs2 D0 D1 Gn Cn lots stock (stock.set kn (z - 1)) r b (i + 1) (i + 1) (i + 2) (i + 2) [] ∨ ShI K H H' l S1 L1 G1 gs1 S2 L2 G2 gs2 D0 D1 Gn Cn lots stock (stock.set kn (z - 1)) r b (i + 1) i (i + 2) (i + 1) [b]))))
            ⟨_, _, rfl, .inl ⟨rfl, I⟩⟩ (fun sd σ' H8 hsd h => ?_) (fun σ' H8 h => ?_)
          · obtain ⟨y11, y12, rfl, h⟩ := h
            rcases h with ⟨rfl, I⟩ | ⟨rfl, I⟩ | ⟨rfl, _⟩
            · walk_at "kp"
              refine w_ixL (SqL.of I.hG) (by rfl) ?_
              refine w_dinB I.d0 ?_
              rw [show (!decide (b ∈ ([] : List Nat))) = true from rfl]
              walk_at "kp"
              intro tl htl
              have et : Kp [] H8 (upd H8 tl (.lst [.ref S1, .ref S2])) := Kp.new htl
              have htl' : upd H8 tl (.lst [.ref S1, .ref S2]) tl = some (.lst [.ref S1, .ref S2]) := upd_same
              have I := I.kp et
              generalize upd H8 tl (.lst [.ref S1, .ref S2]) = H9 at I htl' ⊢
              walk_at "kp"
              refine w_ixL (SqL.of htl') (by rfl) ?_
              obtain ⟨l1, gi1, W1, h1, o1⟩ := I.w1
              walk_at "kp"
              refine ⟨l, S1, L1, G1, gs1, lots, l1, gi1, b, rfl, W1, hlM1, W.hb, fun H10 T10 e10 hcl hT => ?_, fun H10 left' gives' e10 W10 hl10 hS10 => ?_⟩
              · rw [h1] at hcl
                exact (whole_more hBb hrl W.hb hol ho1 W.ob hs1 ho2 (by rw [hN]; omega) (full_of o1 hcl W.hb hT)).elim
              rw [h1] at hS10
              have I := I.add1 a e10 W10 (hl10.trans h1) ((hS10 _ _ o1).ext (fun _ _ => rfl) (fun _ _ _ _ => rfl) (fun _ _ => rfl) fun u _ => by
                show FL.e1 r 1 u + FL.e1 b ((i + 1 : Nat) : Int) u = FL.e1 r 1 u + FL.e1 b (i : Int) u + FL.e1 b 1 u
                rw [Int.add_assoc, e1_add]; rfl)
              walk_at "kp"
              refine w_ixL (SqL.of I.hC) (by rfl) ?_
              walk_at "kp"
              refine w_setL I.hC (j := 0) (by rfl) ?_
              walk_at "kp"
              have I := I.cnt a ((i : Int) + 1 + 1) ((i : Int) + 1)
              refine ⟨_, _, rfl, .inr (.inl ⟨rfl, ?_⟩)⟩
              rw [show (i : Int) + 2 = (i : Int) + 1 + 1 by omega]
              exact I
            · walk_at "kp"
              refine w_ixL (SqL.of I.hG) (by rfl) ?_
              refine w_dinB I.d1 ?_
              rw [show (!decide (b ∈ ([] : List Nat))) = true from rfl]
              walk_at "kp"
              intro tl htl
              have et : Kp [] H8 (upd H8 tl (.lst [.ref S1, .ref S2])) := Kp.new htl
              have htl' : upd H8 tl (.lst [.ref S1, .ref S2]) tl = some (.lst [.ref S1, .ref S2]) := upd_same
              have I := I.kp et
              generalize upd H8 tl (.lst [.ref S1, .ref S2]) = H9 at I htl' ⊢
              walk_at "kp"
              refine w_ixL (SqL.of htl') (by rfl) ?_
              obtain ⟨l2, gi2, W2, h2, o2⟩ := I.w2
              walk_at "kp"
              refine ⟨l, S2, L2, G2, gs2, lots, l2, gi2, b, rfl, W2, hlM2, W.hb, fun H10 T10 e10 hcl hT => ?_, fun H10 left' gives' e10 W10 hl10 hS10 => ?_⟩
              · have I := I.kp e10
                walk_at "kp"
                refine w_ixL (SqL.of I.hG) (by rfl) ?_
                walk_at "kp"
                refine w_dputB I.d1 (by simp) (by simp) ?_
                have I := I.gone a ([] ++ [b])
                exact ⟨_, _, rfl, .inr (.inr ⟨rfl, .inr I⟩)⟩
              rw [h2] at hS10
              have I := I.add2 a e10 W10 (hl10.trans h2) ((hS10 _ _ o2).ext (fun _ _ => rfl) (fun _ _ _ _ => rfl) (fun _ _ => rfl) fun u _ => by
                show FL.e1 b ((i + 1 : Nat) : Int) u = FL.e1 b (i : Int) u + FL.e1 b 1 u
                rw [e1_add]; rfl)
              walk_at "kp"
              refine w_ixL (SqL.of I.hC) (by rfl) ?_
              walk_at "kp"
              refine w_setL I.hC (j := 1) (by rfl) ?_
              walk_at "kp"
              have I := I.cnt a ((i : Int) + 2) ((i : Int) + 1 + 1)
              refine ⟨_, _, rfl, .inr (.inr ⟨rfl, .inl ?_⟩)⟩
              rw [show (i : Int) + 1 + 1 = (i : Int) + 2 by omega] at I ⊢
              exact I
            · omega
          · obtain ⟨y11, y12, rfl, h⟩ := h
            rcases h with ⟨h, _⟩ | ⟨h, _⟩ | ⟨_, I⟩
            · cases h
            · cases h
            · exact ⟨_, _, rfl, I⟩
        · rintro σ' H8 ⟨y11, y12, rfl, I | I⟩
          · walk_at "kp"
            refine w_ixL (SqL.of I.hC) (by rfl) ?_
            walk_at "kp"
            refine w_ixL (SqL.of I.hC) (by rfl) ?_
            walk_at "kp"
            refine w_itD (fun h => by omega) (fun _ => ?_)
            walk_at "kp"
            refine ⟨_, _, _, rfl, ?_⟩
            rw [show ((i + 1 : Nat) : Int) + 1 = (i : Int) + 2 by omega]
            exact I
          · walk_at "kp"
            refine w_ixL (SqL.of I.hC) (by rfl) ?_
            walk_at "kp"
            refine w_ixL (SqL.of I.hC) (by rfl) ?_
            walk_at "kp"
            refine w_itD (fun _ => ?_) (fun h => by omega)
            walk_at "kp"
            exact k _ I.e
      · obtain ⟨y10, y11, y12, rfl, I⟩ := h
        rw [List.length_map, List.length_replicate] at I
        exact hcontra I
end
end K85
namespace K85
open PySem PySem.Spec PyProof.Rows L2 KP
open PySem.W (Datum Tup DatumOrd)
open C8 (fnScope fnBody fnArgs fnScope_by)
section
variable {P : Program} {w : World} {K : PySem.W.Frag} {mg : Str → Option Value} {base : Heap} {C_Table C_Refused C_DeskError : Addr}
end
open FL
def spLaw (K : PySem.W.Frag) : Sp := fun vs H Q _ => ∃ (a : Addr) (ns : List Int), vs = [.ref a] ∧ SqL K H a (ns.map V.int) ∧ ns.length ≤ 63 ∧ ∀ H', Q (.bl true) H'
section
variable {P : Program} {w : World} {K : PySem.W.Frag} {mg : Str → Option Value} {base : Heap} {C_Table C_Refused C_DeskError : Addr} {f : Addr} {fd : FuncData}
set_option maxHeartbeats 4000000 in
theorem ok_law (T : Txt P K mg C_Table C_Refused C_DeskError) (F : C8.Fun K "law" "law" s_law f fd) : FnOk P w K mg base C8.CX0 9 f fd ["script"] (spLaw K) := by
  refine C8.fn0 F sc_law (fun vs H Q E h => ?_) (fun cdv A outer s H vs Q E hr h => ?_)
  · obtain ⟨a, ns, rfl, _⟩ := h; rfl
  · obtain ⟨sa, ns, rfl, hS, hns, k⟩ := h
    refine ⟨_, (pss_cons (ps_set (i := 1) sc_law.nd rfl (by first | exact Or.inl rfl | exact Or.inr rfl) (C8.pe_c (cal__law_heap T) hr (by decide) rfl (pa_cons (pv 0) pa_nil)))
 (pss_cons (ps_par (i := 2) (j := 3) rfl sc_law.nd rfl rfl (by decide) rfl rfl (pa_cons (C8.pe_c (cal__law_pick T) hr (by decide) rfl (pa_cons (pv 1) (pa_cons (pe_lst (pa_cons pe_int (pa_cons pe_int (pa_cons pe_int (pa_cons pe_int (pa_cons pe_int pa_nil)))))) pa_nil))) (pa_cons (C8.pe_c (cal__law_pick T) hr (by decide) rfl (pa_cons (pv 1) (pa_cons (pe_lst (pa_cons pe_int (pa_cons pe_int (pa_cons pe_int (pa_cons pe_int (pa_cons pe_int pa_nil)))))) pa_nil))) pa_nil)) rfl)
 (C8.pss_cut (ps_set (i := 4) sc_law.nd rfl (by first | exact Or.inl rfl | exact Or.inr rfl) (pe_ifExp (pt_cmpR op_eq (C8.pe_c (cal__law_draw T) hr (by decide) rfl (pa_cons (pv 1) (pa_cons pe_int pa_nil))) pe_int (nomark _)) (C8.pe_c (cal__law_forest T) hr (by decide) rfl (pa_cons (pv 1) (pa_cons (pv 2) (pa_cons (pv 3) pa_nil)))) (C8.pe_c (cal__law_lots T) hr (by decide) rfl (pa_cons (pv 1) (pa_cons (pv 2) (pa_cons (pv 3) pa_nil))))))
 (C8.pss_cut (ps_asg (pe_tup (pa_cons (C8.pe_c (cal__law_shuffled T) hr (by decide) rfl (pa_cons (pv 1) (pa_cons (pv 4) pa_nil))) (pa_cons (C8.pe_c (cal__law_pick T) hr (by decide) rfl (pa_cons (pv 1) (pa_cons (pe_lst (pa_cons pe_int (pa_cons pe_int (pa_cons pe_int (pa_cons pe_int (pa_cons (pe_ifExp (pt_cmpR op_gt (pv 2) pe_int (nomark _)) pe_int pe_int) pa_nil)))))) pa_nil))) pa_nil))) (KP.pg_tupK (n := 2) K rfl rfl (pgs_cons (pg_name (i := 4) sc_law.nd rfl (by first | exact Or.inl rfl | exact Or.inr rfl)) (pgs_cons (pg_name (i := 5) sc_law.nd rfl (by first | exact Or.inl rfl | exact Or.inr rfl)) pgs_nil))))
 (pss_cons (ps_set (i := 6) sc_law.nd rfl (by first | exact Or.inl rfl | exact Or.inr rfl) (C8.pe_c (cal__law_table T) hr (by decide) rfl (pa_cons (pv 1) (pa_cons (pv 2) (pa_cons (pv 4) pa_nil)))))
 (pss_cons (ps_set (i := 7) sc_law.nd rfl (by first | exact Or.inl rfl | exact Or.inr rfl) (pe_callTy (KP.cq_tupleK K rfl) rfl T.m_tuple KP.bt_tuple (pa_cons (pe_lc (own := [("kind", 12)]) rfl sc_law.nd (pi_range1 rfl T.m_range (pa_cons (pv 2) pa_nil))
 (blkOk_by (N := n_law) (sc := fnScope s_law) (by decide +kernel)) (fun _ _ _ _ _ => (pg_name (i := 12) sc_law.nd rfl (by first | exact Or.inl rfl | exact Or.inr rfl))) (fun _ _ _ _ _ => pts_nil) (fun _ _ _ _ _ => (C8.pe_c (cal__law_pick T) hr (by decide) rfl (pa_cons (pv 1) (pa_cons (pe_lst (pa_cons (C8.pe_c (cal__law_draw T) hr (by decide) rfl (pa_cons (pv 1) (pa_cons (pe_op op_add (pv 5) pe_int) pa_nil))) (pa_cons (pv 5) (pa_cons pe_int (pa_cons pe_int pa_nil))))) pa_nil))))) pa_nil)))
 (C8.pss_cut (ps_for PassesOwn.never rfl (pi_range1 rfl T.m_range (pa_cons (pv 3) pa_nil)) (pg_name (i := 8) sc_law.nd rfl (by first | exact Or.inl rfl | exact Or.inr rfl))
 (pss_cons (ps_setLc (i := 9) (own := [("kind", 12)]) rfl sc_law.nd rfl rfl (sw_true rfl rfl rfl (by decide +kernel)) (KP.pi_tupK K rfl (pe_ix (KP.ix_listK K rfl) (pv 4) (pv 8) (fun _ _ => rfl)))
 (blkOk_by (N := n_law) (sc := fnScope s_law) (by decide +kernel)) (fun _ _ _ _ _ => (pg_name (i := 12) sc_law.nd rfl (by first | exact Or.inl rfl | exact Or.inr rfl))) (fun _ _ _ _ _ => (pts_one (pt_cmpR op_gt (pe_ix (KP.ix_tupK K rfl) (pv 7) (pv 12) (fun _ _ => rfl)) pe_int (nomark _)))) (fun _ _ _ _ _ => (pv 12)))
 (pss_cons (ps_set (i := 10) sc_law.nd rfl (by first | exact Or.inl rfl | exact Or.inr rfl) (C8.pe_c (cal__law_least T) hr (by decide) rfl (pa_cons (pv 4) (pa_cons (pv 9) pa_nil))))
 (pss_cons (ps_if (pt_not (pt_val (C8.pe_c (cal__law_same T) hr (by decide) rfl (pa_cons (C8.pe_c (cal_least_kinds T) hr (by decide) rfl (pa_cons (pv 6) (pa_cons (pv 7) (pa_cons (pv 8) pa_nil)))) (pa_cons (pv 10) pa_nil)))))
 (pss_one (ps_ret pe_bl))
 pss_nil)
 (pss_cons (ps_set (i := 11) sc_law.nd rfl (by first | exact Or.inl rfl | exact Or.inr rfl) (C8.pe_c (cal__law_pick T) hr (by decide) rfl (pa_cons (pv 1) (pa_cons (pe_lst (pa_cons (pv 2) (pa_cons (pe_op op_sub pe_int pe_int) (pa_cons pe_non (pa_cons pe_bl (pa_cons pe_bl (pa_cons pe_str (pa_cons (pe_tup pa_nil) (pa_cons (C8.pe_c (cal__law_draw T) hr (by decide) rfl (pa_cons (pv 1) (pa_cons (pv 2) pa_nil))) pa_nil))))))))) pa_nil))))
 (C8.pss_cut (ps_if (PW.pt (pw_and (PW.pt (pw_or (pt_val (pe_callB (KP.call_isiK' K rfl) rfl T.m_isinstance KP.bt_isinstance (pa_cons (pv 11) (pa_cons (KP.pe_ty rfl T.m_bool KP.bt_bool) pa_nil)))) (pw_or1 (pt_cmpR (KP.op_notInXK K rfl hr.units) (pv 11) (pv 9) rfl)))) (pw_and1 (pt_not (pt_val (C8.pe_c (cal__law_refused T) hr (by decide) rfl (pa_cons (pv 6) (pa_cons (pv 7) (pa_cons (pv 8) (pa_cons (pv 11) pa_nil))))))))))
 (pss_one (ps_ret pe_bl))
 pss_nil)
 (pss_cons (ps_set (i := 12) sc_law.nd rfl (by first | exact Or.inl rfl | exact Or.inr rfl) (C8.pe_c (cal__law_pick T) hr (by decide) rfl (pa_cons (pv 1) (pa_cons (pe_op op_cat (pv 9) (pe_lst (pa_cons pe_non pa_nil))) pa_nil))))
 (pss_cons (ps_set (i := 13) sc_law.nd rfl (by first | exact Or.inl rfl | exact Or.inr rfl) (pe_ifExp (pt_cmp (pc_notN (pv 12))) (KP.pe_cx0 (cax_wrong_row T) hr (by decide) rfl (pa_cons (pv 6) (pa_cons (pv 7) (pa_cons (pv 8) (pa_cons (pv 12) pa_nil))))) pe_non))
 (pss_cons (ps_if (PW.pt (pw_and (pt_cmp (pc_notN (pv 12))) (pw_and1 (pt_cmpR op_ne (pe_cmp (pc_isN (pv 13))) (pe_cmpR (KP.op_inXK K rfl hr.units) (pv 12) (pv 10) rfl) (nomark _)))))
 (pss_one (ps_ret pe_bl))
 pss_nil)
 (pss_one (ps_if (PW.pt (pw_and (pt_cmp (pc_notN (pv 13))) (pw_and1 (PW.pt (pw_or (pt_not (pt_val (C8.pe_c (cal__law_is_row T) hr (by decide) rfl (pa_cons (pv 13) (pa_cons (pv 3) pa_nil))))) (pw_or1 (pt_not (pt_val (C8.pe_c (cal__law_shows T) hr (by decide) rfl (pa_cons (pv 4) (pa_cons (pv 7) (pa_cons (pe_tup (pa_cons (pv 8) (pa_cons (pv 12) pa_nil))) (pa_cons (pv 13) pa_nil)))))))))))))
 (pss_one (ps_ret pe_bl))
 pss_nil)))))))))))
 (pss_one (ps_ret pe_bl))))))))), ?_⟩
    (simp only [n_law, KP.st_cons, KP.st_nilc, KP.st_nil]); (try dsimp only [L2.cxOf, L2.Cx.nox, L2.Cx.wish])
    walk_at "kp"
    refine ⟨sa, ns, rfl, hS, hns, fun a b H1 e1 R1 ha0 hb0 => ?_⟩
    walk_at "kp"
    intro p hp
    have R2 := R1.new (o := HO.lst [.int 8, .int 3, .int 6, .int 2, .int 5]) hp
    refine ⟨a, b, p, _, rfl, R2, SqL.of upd_same, ne_free R1.da hp, ne_free R1.db hp, by simp, by simp, fun i v H2 hv e2 R2 => ?_⟩
    obtain ⟨n, rfl, hn1, hn8⟩ : ∃ n : Nat, v = .int (n : Int) ∧ 1 ≤ n ∧ n ≤ 8 := by
      match i, hv with
      | 0, h => exact ⟨8, (Option.some.inj h).symm, by decide, by decide⟩
      | 1, h => exact ⟨3, (Option.some.inj h).symm, by decide, by decide⟩
      | 2, h => exact ⟨6, (Option.some.inj h).symm, by decide, by decide⟩
      | 3, h => exact ⟨2, (Option.some.inj h).symm, by decide, by decide⟩
      | 4, h => exact ⟨5, (Option.some.inj h).symm, by decide, by decide⟩
      | i + 5, h => simp at h
    walk_at "kp"
    intro p hp
    have R3 := R2.new (o := HO.lst [.int 12, .int 9, .int 12, .int 5, .int 10]) hp
    refine ⟨a, b, p, _, rfl, R3, SqL.of upd_same, ne_free R2.da hp, ne_free R2.db hp, by simp, by simp, fun i v H3 hv e3 R3 => ?_⟩
    obtain ⟨m, rfl, hm4, hm12⟩ : ∃ n : Nat, v = .int (n : Int) ∧ 4 ≤ n ∧ n ≤ 12 := by
      match i, hv with
      | 0, h => exact ⟨12, (Option.some.inj h).symm, by decide, by decide⟩
      | 1, h => exact ⟨9, (Option.some.inj h).symm, by decide, by decide⟩
      | 2, h => exact ⟨12, (Option.some.inj h).symm, by decide, by decide⟩
      | 3, h => exact ⟨5, (Option.some.inj h).symm, by decide, by decide⟩
      | 4, h => exact ⟨10, (Option.some.inj h).symm, by decide, by decide⟩
      | i + 5, h => simp at h
    walk_at "kp"
    refine w_cut (fun σ' H' => ∃ (Lp : Addr) (ws : List V) (lotsT : List TInt), σ' = [some (.ref sa), some (.ref a), some (.int n), some (.int m), some (.ref Lp), none, none, none, none, none, none, none, none, none] ∧ Rng H' a b ∧ Lp ≠ a ∧ Lp ≠ b ∧ H' Lp = some (.lst ws) ∧ IsAll K H' ws lotsT ∧ lotsT.length = m ∧ (∀ t ∈ lotsT, listB t.items n = true)) ?_ ?_
    · walk_at "kp"
      refine ⟨a, b, 3, rfl, R3, by decide, by decide, fun zf H4 _ _ e4 R4 => ?_⟩
      walk_at "kp"
      refine w_itD (fun _ => ?_) (fun _ => ?_)
      · walk_at "kp"
        refine ⟨a, b, n, m, rfl, R4, hn1, hn8, hm12, fun H5 q ws lotsT e5 R5 hq hqa hl hB hlam hq0 => ?_⟩
        walk_at "kp"
        exact ⟨q, ws, lotsT, rfl, R5, ne_free R4.da hq0, ne_free R4.db hq0, hq, hqa, hl, hB⟩
      · walk_at "kp"
        refine ⟨a, b, n, m, rfl, R4, hn1, hn8, hm12, fun H5 q ws lotsT e5 R5 hq hqa hl hB hq0 => ?_⟩
        walk_at "kp"
        exact ⟨q, ws, lotsT, rfl, R5, ne_free R4.da hq0, ne_free R4.db hq0, hq, hqa, hl, hB⟩
    clear hv hp R3 R2 R1 e1 e2 e3
    rintro σ' H1 ⟨Lp0, ws0, lots0, rfl, R1, nLa0, nLb0, hL0, hLa0, hLl0, hB0⟩
    walk_at "kp"
    refine w_cut (fun σ' H' => ∃ (Lp : Addr) (ws : List V) (lotsT : List TInt) (most : Int), σ' = [some (.ref sa), some (.ref a), some (.int n), some (.int m), some (.ref Lp), some (.int most), none, none, none, none, none, none, none, none] ∧ Rng H' a b ∧ Lp ≠ a ∧ Lp ≠ b ∧ H' Lp = some (.lst ws) ∧ IsAll K H' ws lotsT ∧ lotsT.length = m ∧ (∀ t ∈ lotsT, listB t.items n = true) ∧ 1 ≤ most ∧ most ≤ 400) ?_ ?_
    · walk_at "kp"
      refine ⟨TInt, inferInstance, inferInstance, inferInstance, a, b, Lp0, ws0, lots0, rfl, R1, SqL.of hL0, hLa0, by decide, by omega, fun H2 Lp ws lotsT e2 R2 hL hLa hperm hL0' => ?_⟩
      have nLa := ne_free R1.da hL0'
      have nLb := ne_free R1.db hL0'
      have hll : lotsT.length = m := by rw [hperm.length_eq]; exact hLl0
      have hBB : ∀ t ∈ lotsT, listB t.items n = true := fun t ht => hB0 t (hperm.mem_iff.mp ht)
      walk_at "kp"
      have pickm : ∀ (z : Int) (H3 : Hp) (p : Addr), 60 ≤ z → z ≤ 400 → H2 p = none → H3 = upd H2 p (.lst [.int 1, .int 3, .int 12, .int 60, .int z]) → ∀ (i : Nat) (v : V), [V.int 1, .int 3, .int 12, .int 60, .int z][i]? = some v → ∃ most : Int, v = .int most ∧ 1 ≤ most ∧ most ≤ 400 := fun z H3 p h1 h2 _ _ i v hv => by
        match i, hv with
        | 0, h => exact ⟨1, (Option.some.inj h).symm, by decide, by decide⟩
        | 1, h => exact ⟨3, (Option.some.inj h).symm, by decide, by decide⟩
        | 2, h => exact ⟨12, (Option.some.inj h).symm, by decide, by decide⟩
        | 3, h => exact ⟨60, (Option.some.inj h).symm, by decide, by decide⟩
        | 4, h => exact ⟨z, (Option.some.inj h).symm, by omega, by omega⟩
        | i + 5, h => simp at h
      refine w_itD (fun _ => ?_) (fun _ => ?_)
      · walk_at "kp"
        intro p hp
        have R3 := R2.new (o := HO.lst [.int 1, .int 3, .int 12, .int 60, .int 60]) hp
        refine ⟨a, b, p, _, rfl, R3, SqL.of upd_same, ne_free R2.da hp, ne_free R2.db hp, by simp, by simp, fun i v H3 hv e3 R3 => ?_⟩
        obtain ⟨most, rfl, h1, h2⟩ := pickm 60 _ p (by decide) (by decide) hp rfl i v hv
        walk_at "kp"
        intro tp htp
        have e4 : Kp [a, b] H2 (upd H3 tp (.tup [.ref Lp, .int most])) := ((Kp.new hp).trans e3).trans (Kp.new htp)
        refine w_gTup (SqT.of upd_same) rfl ?_
        walk_at "kp"
        exact ⟨Lp, ws, lotsT, most, rfl, R3.new htp, nLa, nLb, e4.keep _ _ hL (by simp [nLa, nLb]), hLa.kp e4, hll, hBB, h1, h2⟩
      · walk_at "kp"
        intro p hp
        have R3 := R2.new (o := HO.lst [.int 1, .int 3, .int 12, .int 60, .int 400]) hp
        refine ⟨a, b, p, _, rfl, R3, SqL.of upd_same, ne_free R2.da hp, ne_free R2.db hp, by simp, by simp, fun i v H3 hv e3 R3 => ?_⟩
        obtain ⟨most, rfl, h1, h2⟩ := pickm 400 _ p (by decide) (by decide) hp rfl i v hv
        walk_at "kp"
        intro tp htp
        have e4 : Kp [a, b] H2 (upd H3 tp (.tup [.ref Lp, .int most])) := ((Kp.new hp).trans e3).trans (Kp.new htp)
        refine w_gTup (SqT.of upd_same) rfl ?_
        walk_at "kp"
        exact ⟨Lp, ws, lotsT, most, rfl, R3.new htp, nLa, nLb, e4.keep _ _ hL (by simp [nLa, nLb]), hLa.kp e4, hll, hBB, h1, h2⟩
    clear R1 nLa0 nLb0 hL0 hLa0 hLl0 hB0
    rintro σ' H1 ⟨Lp, ws, lotsT, most, rfl, R1, nLa, nLb, hL, hLa, hLl, hB, hmo1, hmo4⟩
    walk_at "kp"
    refine ⟨a, b, Lp, n, ws, lotsT, rfl, R1, hL, hLa, nLa, nLb, hn1, hn8, by omega, hB, fun H2 t kn types hT hkn hty e2 R2 ht0 => ?_⟩
    have nta : t ≠ a := ne_free R1.da ht0
    have ntb : t ≠ b := ne_free R1.db ht0
    have hL2 := e2.keep _ _ hL (by simp [nLa, nLb])
    have hLa2 := hLa.kp e2
    clear e2 R1 hL hLa ht0
    obtain ⟨lots, hlots⟩ : ∃ lots, lots = lotsOf types := ⟨_, rfl⟩
    have hlT : lotsT = tups lots := by
      rw [hlots, ← hty]
      unfold tups lotsOf
      rw [List.map_map]
      exact List.map_congr_left fun p _ => rfl
    subst hlT
    have hll : lots.length = m := by rw [← hLl]; simp [tups]
    have hB : ∀ t ∈ lots, listB t n = true := fun t ht => hB (Tup.mk t) (List.mem_map_of_mem ht)
    have htl : types.length = m := by rw [← hll, hlots]; simp [lotsOf]
    walk_at "kp"
    refine w_lcR1V K n rfl Int [a, b] (fun H => Rng H a b) (fun i acc => acc.length = i ∧ ∀ x ∈ acc, 0 ≤ x ∧ x ≤ 1000) (by omega) (by simp [R2.da, R2.db]) R2 R2.grow (by simp) (fun i acc H6 QE QF hi e6 R6 hj hl1 kE kF => ?_) ?_
    · walk_at "kp"
      refine ⟨rfl, ?_⟩
      walk_at "kp"
      refine ⟨a, b, most + 1, rfl, R6, by omega, by omega, fun z7 H7 z70 z71 e7 R7 => ?_⟩
      walk_at "kp"
      intro p hp
      have R9 := R7.new (o := HO.lst [.int z7, .int most, .int 0, .int 1]) hp
      refine ⟨a, b, p, _, rfl, R9, SqL.of upd_same, ne_free R7.da hp, ne_free R7.db hp, by simp, by simp, fun i2 v H9 hv e9 R9 => ?_⟩
      obtain ⟨x0, rfl, hx0⟩ : ∃ x : Int, v = .int x ∧ 0 ≤ x ∧ x ≤ 1000 := by
        match i2, hv with
        | 0, h => exact ⟨_, (Option.some.inj h).symm, by omega⟩
        | 1, h => exact ⟨_, (Option.some.inj h).symm, by omega⟩
        | 2, h => exact ⟨_, (Option.some.inj h).symm, by omega⟩
        | 3, h => exact ⟨_, (Option.some.inj h).symm, by omega⟩
        | i + 4, h => simp at h
      refine kE _ x0 _ ((e7.trans (Kp.new hp)).trans e9) R9 (is_int _) ⟨by simp [hj.1], fun x hx => ?_⟩
      rcases List.mem_append.mp hx with hx | hx
      · exact hj.2 x hx
      · rw [List.mem_singleton.mp hx]; exact hx0
    intro D us stock H6 hD e6 R6 hj hlen hall hH6
    walk_at "kp"
    refine w_tupD hH6 hall fun vst H7 e7 ist => ?_
    have e27 : Kp [a, b] H2 H7 := e6.trans e7.wide
    have R7 := R6.kp e7 (by simp) (by simp)
    have hT := hT.kp e27 (by simp [nta, ntb])
    have hL7 := e27.keep _ _ hL2 (by simp [nLa, nLb])
    have hLa7 := hLa2.kp e27
    obtain ⟨hsl, hs0⟩ := hj
    clear hlen hall hH6 hD e6 e7 e27 R6 R2 hL2 hLa2
    have hBs : ∀ t ∈ lots, listB t stock.length = true := fun t ht => by rw [hsl]; exact hB t ht
    have hwl : ws.length = m := by rw [hLa7.length]; simpa [tups] using hll
    walk_at "kp"
    refine w_cut (fun _ _ => True) ?_ ?_
    · walk_at "kp"
      refine w_lpR1 m rfl (by omega) (fun i σ' H' => ∃ (y8 y9 y10 y11 y12 y13 : Option V), σ' = [some (.ref sa), some (.ref a), some (.int n), some (.int m), some (.ref Lp), some (.int most), some (.ref t), some vst, y8, y9, y10, y11, y12, y13] ∧ Kp [a, b] H7 H' ∧ Rng H' a b)
        ⟨_, _, _, _, _, _, rfl, Kp.refl, R7⟩ (fun r σ' H8 hrm h => ?_) (fun σ' H8 h => trivial)
      obtain ⟨y8, y9, y10, y11, y12, y13, rfl, e8, R8⟩ := h
      have hL8 := e8.keep _ _ hL7 (by simp [nLa, nLb])
      have hLa8 := hLa7.kp e8
      have hT8 := hT.kp e8 (by simp [nta, ntb])
      have ist8 := ist.kp e8
      have hrl : r < lots.length := by omega
      have hrt : r < types.length := by omega
      have glr : lots[r]? = some (lots.getD r []) := by rw [List.getD_eq_getElem?_getD, List.getElem?_eq_getElem hrl]; rfl
      obtain ⟨tv, htv, itv⟩ := hLa8.get' (i := r) (x := Tup.mk (lots.getD r [])) (by unfold tups; rw [List.getElem?_map, glr]; rfl)
      have hlr := hBs _ (getD_mem hrl)
      have hlrl := listB_len hlr
      obtain ⟨pk, pks, rfl, hpk, hpka⟩ := ist.tupm
      have := hpka.ints
      subst this
      walk_at "kp"
      refine w_ixL (SqL.of hL8) (atI_nat htv) ?_
      refine w_lcTF itv (fun k => if decide (0 < stock.getD k.toNat 0) then some k else none) (by omega) (fun i x vx H9 QE QF hx ix e9 kE kF => ?_) (fun D9 ws9 H9 hD9 e9 hall9 hH9 => ?_)
      · have := ix.int
        subst this
        have hb := (listB_iff.mp hlr).1 x (List.mem_of_getElem? hx)
        obtain ⟨z, hz, hg, hza⟩ := getD_idx hb.1 hb.2
        walk_at "kp"
        refine ⟨rfl, ?_⟩
        walk_at "kp"
        refine w_ixT (e9.sqT (e8.sqT hpk)) hza ?_
        walk_at "kp"
        refine w_itD (fun h0 => ?_) (fun h0 => ?_)
        · walk_at "kp"
          exact kE _ x _ Kp.refl (is_int _) (by rw [hg, decide_eq_true h0]; rfl)
        · exact kF _ Kp.refl (by rw [hg, decide_eq_false h0]; rfl)
      have hw := hall9.ints
      subst hw
      rw [fm_filter] at hH9
      have hH9 : H9 D9 = some (.lst ((handOf lots stock r).map V.int)) := hH9
      obtain ⟨hand, hhand⟩ : ∃ hand, hand = handOf lots stock r := ⟨_, rfl⟩
      rw [← hhand] at hH9
      have hhl : hand.length ≤ 8 := by
        rw [hhand]
        unfold handOf
        refine Nat.le_trans (List.length_filter_le _ _) ?_
        omega
      have R9 := R8.kp e9 (by simp) (by simp)
      have nDa : D9 ≠ a := ne_free R8.da hD9
      have nDb : D9 ≠ b := ne_free R8.db hD9
      have e89 : Kp [a, b] H7 H9 := e8.trans e9.wide
      clear hall9 hD9 e9 hL8 hLa8 hT8 ist8 itv
      walk_at "kp"
      refine ⟨Lp, D9, lots, hand, rfl, ⟨ws, SqL.of (e89.keep _ _ hL7 (by simp [nLa, nLb])), hLa7.kp e89⟩, SqL.of hH9, by omega, by omega, fun H10 Le e10 hLe0 hLe => ?_⟩
      rw [least_eq] at hLe
      have nLea : Le ≠ a := ne_free R9.da hLe0
      have nLeb : Le ≠ b := ne_free R9.db hLe0
      have R10 := R9.kp e10 (by simp) (by simp)
      have hH10 := e10.keep _ _ hH9 (by simp)
      have e8a : Kp [a, b] H7 H10 := e89.trans e10.wide
      walk_at "kp"
      refine ⟨t, .ref pk, kn, types, stock, r, rfl, hT.kp e8a (by simp [nta, ntb]), ist.kp e8a, by omega, hrt, fun H11 vl e11 il => ?_⟩
      rw [← hlots, ← hhand] at il
      walk_at "kp"
      refine ⟨vl, Le, _, _, _, rfl, is_tup_some il, SqL.of (e11.keep _ _ hLe (by simp)), isAll_some _, by rw [List.length_map]; unfold leastOf; refine Nat.le_trans (List.length_filter_le _ _) ?_; omega, ?_⟩
      rw [decide_eq_true rfl]
      walk_at "kp"
      have R11 := R10.kp e11 (by simp) (by simp)
      have hH11 := e11.keep _ _ hH10 (by simp)
      have hLe11 := e11.keep _ _ hLe (by simp)
      have e8b : Kp [a, b] H7 H11 := e8a.trans e11.wide
      clear e10 e11 e8a e89 il R10 R9 hH10 hH9 hLe hLe0
      intro te hte
      have R12 := R11.new (o := HO.tup []) hte
      have e12 : Kp [a, b] H11 (upd H11 te (.tup [])) := Kp.new hte
      have hte' : upd H11 te (.tup []) te = some (.tup []) := upd_same
      generalize upd H11 te (.tup []) = H12 at R12 e12 hte' ⊢
      walk_at "kp"
      refine ⟨a, b, n, rfl, R12, by omega, by omega, fun z13 H13 z0 z1 e13 R13 => ?_⟩
      walk_at "kp"
      intro p hp
      have R14 := R13.new (o := HO.lst [.int n, .int (0 - 1), .non, .bl true, .bl false, .str "0", .ref te, .int z13]) hp
      refine ⟨a, b, p, _, rfl, R14, SqL.of upd_same, ne_free R13.da hp, ne_free R13.db hp, by simp, by simp, fun i v H14 hv e14 R14 => ?_⟩
      have e24 : Kp [a, b] H11 H14 := ((e12.trans e13).trans (Kp.new hp)).trans e14
      have hte14 : SqT K H14 te [] := ((e13.trans (Kp.new hp)).trans e14).sqT (SqT.of hte')
      have e8c : Kp [a, b] H7 H14 := e8b.trans e24
      have hH14 := e24.keep _ _ hH11 (by simp [nDa, nDb])
      have hLe14 := e24.keep _ _ hLe11 (by simp [nLea, nLeb])
      have hvv : v = .non ∨ (∃ c, v = .bl c) ∨ (∃ s, v = .str s) ∨ v = .ref te ∨ ∃ z, v = .int z := by
        match i, hv with
        | 0, h => exact .inr (.inr (.inr (.inr ⟨_, (Option.some.inj h).symm⟩)))
        | 1, h => exact .inr (.inr (.inr (.inr ⟨_, (Option.some.inj h).symm⟩)))
        | 2, h => exact .inl (Option.some.inj h).symm
        | 3, h => exact .inr (.inl ⟨_, (Option.some.inj h).symm⟩)
        | 4, h => exact .inr (.inl ⟨_, (Option.some.inj h).symm⟩)
        | 5, h => exact .inr (.inr (.inl ⟨_, (Option.some.inj h).symm⟩))
        | 6, h => exact .inr (.inr (.inr (.inl (Option.some.inj h).symm)))
        | 7, h => exact .inr (.inr (.inr (.inr ⟨_, (Option.some.inj h).symm⟩)))
        | i + 8, h => simp at h
      clear hv hp e12 e13 e14 e24 hte' hte R11 R12 R13 hH11 hLe11 e8b
      walk_at "kp"
      have hT14 := hT.kp e8c (by simp [nta, ntb])
      have ist14 := ist.kp e8c
      have refu : ∀ v, (OddV K H14 v ∨ ∃ z, v = .int z ∧ z ∉ hand) → ∀ Q : VK, (∀ H', Kp [] H14 H' → Q (.bl true) H') → spRefK K C_Table [.ref t, .ref pk, .int r, v] H14 Q C8.E0 := fun v ho Q q =>
        ⟨t, .ref pk, v, kn, types, stock, r, rfl, hT14, ist14, by omega, hrt, hs0, by rw [← hlots, ← hhand]; exact ho, q⟩
      refine w_cut (fun σ' H' => ∃ (y12 y13 : Option V), σ' = [some (.ref sa), some (.ref a), some (.int n), some (.int m), some (.ref Lp), some (.int most), some (.ref t), some (.ref pk), some (.int r), some (.ref D9), some (.ref Le), some v, y12, y13] ∧ Kp [] H14 H') ?_ ?_
      · walk_at "kp"
        rcases hvv with rfl | ⟨c, rfl⟩ | ⟨s0, rfl⟩ | rfl | ⟨z, rfl⟩
        · refine w_isiNB ?_
          walk_at "kp"
          refine w_notIn none (hand.map some) (.inl (SqL.of hH14)) (isAll_some _) is_none (by decide) ?_
          rw [dec_f (show ¬ (none : Option Int) ∈ hand.map some by simp)]
          walk_at "kp"
          refine refu _ (.inl (.inl rfl)) _ fun H15 e15 => ?_
          walk_at "kp"
          exact ⟨_, _, rfl, e15⟩
        · refine w_isiBB ?_
          walk_at "kp"
          refine refu _ (.inl (.inr (.inl ⟨_, rfl⟩))) _ fun H15 e15 => ?_
          walk_at "kp"
          exact ⟨_, _, rfl, e15⟩
        · refine w_isiSB ?_
          walk_at "kp"
          refine w_notIn (OddD.str s0) (hand.map .int) (.inl (SqL.of hH14)) (isAll_odd _) (is_oddS _) (by decide) ?_
          rw [dec_f (show ¬ OddD.str s0 ∈ hand.map OddD.int by simp)]
          walk_at "kp"
          refine refu _ (.inl (.inr (.inr (.inl ⟨_, rfl⟩)))) _ fun H15 e15 => ?_
          walk_at "kp"
          exact ⟨_, _, rfl, e15⟩
        · refine w_isiTB hte14 ?_
          walk_at "kp"
          refine w_notIn OddD.unit (hand.map .int) (.inl (SqL.of hH14)) (isAll_odd _) (is_oddU hte14) (by decide) ?_
          rw [dec_f (show ¬ OddD.unit ∈ hand.map OddD.int by simp)]
          walk_at "kp"
          refine refu _ (.inl (.inr (.inr (.inr ⟨_, _, rfl, hte14⟩)))) _ fun H15 e15 => ?_
          walk_at "kp"
          exact ⟨_, _, rfl, e15⟩
        · walk_at "kp"
          refine w_notIn z hand (.inl (SqL.of hH14)) (isAll_ints _) (is_int _) (by decide) ?_
          walk_at "kp"
          by_cases hz : z ∈ hand
          · rw [decide_eq_true hz]
            walk_at "kp"
            exact ⟨_, _, rfl, Kp.refl⟩
          · rw [decide_eq_false hz]
            walk_at "kp"
            refine refu _ (.inr ⟨z, rfl, hz⟩) _ fun H15 e15 => ?_
            walk_at "kp"
            exact ⟨_, _, rfl, e15⟩
      rintro σ' H15 ⟨y12, y13, rfl, e15⟩
      have R15 := R14.kp e15 (by simp) (by simp)
      have hH15 := e15.keep _ _ hH14 (by simp)
      have hLe15 := e15.keep _ _ hLe14 (by simp)
      have e8d := e8c.trans e15.wide
      clear refu hT14 ist14 R14 hH14 hLe14 e15 e8c hte14
      walk_at "kp"
      intro nl hnl
      have e16 : Kp [a, b] H15 (upd H15 nl (.lst [.non])) := Kp.new hnl
      have R16 := R15.new (o := HO.lst [.non]) hnl
      have hH16 := e16.keep _ _ hH15 (by simp [nDa, nDb])
      have hLe16 := e16.keep _ _ hLe15 (by simp [nLea, nLeb])
      have hnl' : upd H15 nl (.lst [.non]) nl = some (.lst [.non]) := upd_same
      generalize upd H15 nl (.lst [.non]) = H16 at e16 R16 hH16 hLe16 hnl' ⊢
      refine ⟨D9, nl, _, _, rfl, rfl, hH16, hnl', by rw [sizeLine_eq, List.length_map]; show hand.length + 1 ≤ _; omega, fun cl hcl => ?_⟩
      have e17 : Kp [a, b] H16 (upd H16 cl (.lst (hand.map V.int ++ [.non]))) := Kp.new hcl
      have R17 := R16.new (o := HO.lst (hand.map V.int ++ [.non])) hcl
      refine ⟨a, b, cl, _, rfl, R17, SqL.of upd_same, ne_free R16.da hcl, ne_free R16.db hcl, by simp, by simp; omega, fun i v18 H18 hv e18 R18 => ?_⟩
      have hvv18 : v18 = .non ∨ ∃ z, v18 = .int z ∧ z ∈ hand := by
        rcases List.mem_append.mp (List.mem_of_getElem? hv) with h | h
        · obtain ⟨z, hz, rfl⟩ := List.mem_map.mp h
          exact .inr ⟨z, rfl, hz⟩
        · exact .inl (List.mem_singleton.mp h)
      have e58 : Kp [a, b] H15 H18 := (e16.trans e17).trans e18
      have hLe18 := e58.keep _ _ hLe15 (by simp [nLea, nLeb])
      have e8e := e8d.trans e58
      clear hv e16 e17 e18 R16 R17 hH16 hLe16 hcl hnl hnl' e58 e8d R15 hH15 hLe15
      have hT18 := hT.kp e8e (by simp [nta, ntb])
      have ist18 := ist.kp e8e
      rcases hvv18 with rfl | ⟨kd, rfl, hkd⟩
      · walk_at "kp"
        exact ⟨_, _, _, _, _, _, rfl, e8e, R18⟩
      · have hkd' := hkd
        rw [hhand, hlots] at hkd'
        walk_at "kp"
        refine ⟨t, .ref pk, _, kn, types, stock, r, rfl, hT18, ist18, by omega, hrt, hs0, .inr ⟨kd, rfl⟩, fun h => ?_, fun z hz _ => ?_⟩
        · exfalso
          rcases h with h | ⟨z, h, hn⟩
          · rcases h with h | ⟨_, h⟩ | ⟨_, h⟩ | ⟨_, _, h, _⟩ <;> cases h
          · cases h; exact hn hkd'
        · cases hz
          rw [← hlots, ← hhand]
          refine ⟨fun H19 e19 hle => ?_, fun H19 w19 bn on e19 hnle W iw => ?_⟩
          · have hLe19 := e19.keep _ _ hLe18 (by simp)
            walk_at "kp"
            refine w_in kd _ (.inl (SqL.of hLe19)) (isAll_ints _) (is_int _) (by decide) ?_
            rw [decide_eq_true hle]
            refine w_neB ?_
            rw [show (!decide (decide (V.non = V.non) = true)) = false by simp]
            walk_at "kp"
            exact ⟨_, _, _, _, _, _, rfl, e8e.trans e19.wide, R18.kp e19 (by simp) (by simp)⟩
          · have hLe19 := e19.keep _ _ hLe18 (by simp)
            have hbm : bn < m := by have := W.hb; omega
            obtain ⟨wp, wps, rfl, hwp, hwpa⟩ := iw.tupm
            walk_at "kp"
            refine w_in kd _ (.inl (SqL.of hLe19)) (isAll_ints _) (is_int _) (by decide) ?_
            rw [decide_eq_false hnle]
            refine w_neB ?_
            rw [show (!decide (decide (V.ref wp = V.non) = false)) = false by simp]
            walk_at "kp"
            have hu2 := units_le hs0 (lots.getD bn [])
            have hlb := listB_len (hBs _ (getD_mem W.hb))
            refine ⟨.ref wp, _, (m : Int), rfl, iw, by rw [List.length_replicate]; omega, fun x hx => by rw [List.eq_of_mem_replicate hx]; omega, fun H20 e20 => ?_⟩
            walk_at "kp"
            intro tq htq
            have e21 : Kp [] H20 (upd H20 tq (.tup [.int r, .int kd])) := Kp.new htq
            have e9f : Kp [a, b] H7 (upd H20 tq (.tup [.int r, .int kd])) := ((e8e.trans e19.wide).trans e20.wide).trans e21.wide
            walk_at "kp"
            refine ⟨Lp, .ref pk, .ref tq, .ref wp, lots, stock, r, bn, kd, on, rfl, ⟨ws, SqL.of (e9f.keep _ _ hL7 (by simp [nLa, nLb])), hLa7.kp e9f⟩, ⟨_, e9f.keep _ _ hL7 (by simp [nLa, nLb])⟩, ist.kp e9f, is_pair (SqT.of upd_same) (is_int _) (is_int _), (iw.kp e20).kp e21, by omega, by omega, hBs, hs0, hrl, W, fun H22 e22 => ?_⟩
            walk_at "kp"
            exact ⟨_, _, _, _, _, _, rfl, e9f.trans e22.wide, (((R18.kp e19 (by simp) (by simp)).kp e20 (by simp) (by simp)).kp e21 (by simp) (by simp)).kp e22 (by simp) (by simp)⟩
    · rintro σ' H8 -
      walk_at "kp"
      exact k H8
end
end K85
namespace K85
open PySem PySem.Spec PyProof.Rows L2 KP
open C8 (fnScope fnBody fnArgs fnScope_by)
set_option maxHeartbeats 0 in
theorem all_mk {l : PySem.W.OpenLaw} {w : World} {K : PySem.W.Frag} {h : Heap} {mg : Str → Option Value} {fa C_Table C_Refused C_DeskError f0 f1 f2 f3 f4 f5 f6 f7 f8 f9 f10 f11 f12 f13 f14 f15 f16 f17 f18 f19 f20 f21 f22 f23 f24 f25 f26 f27 f28 f29 f30 f31 f32 f33 f34 : Addr} (X : K.In h) (G : h.Ns mainGlobals mg) (hfa : mg "law" = some (.ref fa))
    {od0 an0 od1 an1 od2 an2 od3 an3 od4 an4 od5 an5 od6 an6 od7 an7 od8 an8 od9 an9 od10 an10 od11 an11 od12 an12 od13 an13 od14 an14 od15 an15 od16 an16 od17 an17 od18 an18 od19 an19 od20 an20 od21 an21 od22 an22 od23 an23 od24 an24 od25 an25 od26 an26 od27 an27 od28 an28 od29 an29 od30 an30 od31 an31 od32 an32 od33 an33 od34 an34 : Option Addr} {sl0 sl1 sl2 sl3 sl4 sl5 sl6 sl7 sl8 sl9 sl10 sl11 sl12 sl13 sl14 sl15 sl16 sl17 sl18 sl19 sl20 sl21 sl22 sl23 sl24 sl25 sl26 sl27 sl28 sl29 sl30 sl31 sl32 sl33 sl34 : Array (Option Value)} {oc0 kV0 dc0 pm0 cd0 ct0 oc1 kV1 dc1 pm1 cd1 ct1 oc2 kV2 dc2 pm2 cd2 ct2 oc3 kV3 dc3 pm3 cd3 ct3 oc4 kV4 dc4 pm4 cd4 ct4 oc5 kV5 dc5 pm5 cd5 ct5 oc6 kV6 dc6 pm6 cd6 ct6 oc7 kV7 dc7 pm7 cd7 ct7 oc8 kV8 dc8 pm8 cd8 ct8 oc9 kV9 dc9 pm9 cd9 ct9 oc10 kV10 dc10 pm10 cd10 ct10 oc11 kV11 dc11 pm11 cd11 ct11 oc12 kV12 dc12 pm12 cd12 ct12 oc13 kV13 dc13 pm13 cd13 ct13 oc14 kV14 dc14 pm14 cd14 ct14 oc15 kV15 dc15 pm15 cd15 ct15 oc16 kV16 dc16 pm16 cd16 ct16 oc17 kV17 dc17 pm17 cd17 ct17 oc18 kV18 dc18 pm18 cd18 ct18 oc19 kV19 dc19 pm19 cd19 ct19 oc20 kV20 dc20 pm20 cd20 ct20 oc21 kV21 dc21 pm21 cd21 ct21 oc22 kV22 dc22 pm22 cd22 ct22 oc23 kV23 dc23 pm23 cd23 ct23 oc24 kV24 dc24 pm24 cd24 ct24 oc25 kV25 dc25 pm25 cd25 ct25 oc26 kV26 dc26 pm26 cd26 ct26 oc27 kV27 dc27 pm27 cd27 ct27 oc28 kV28 dc28 pm28 cd28 ct28 oc29 kV29 dc29 pm29 cd29 ct29 oc30 kV30 dc30 pm30 cd30 ct30 oc31 kV31 dc31 pm31 cd31 ct31 oc32 kV32 dc32 pm32 cd32 ct32 oc33 kV33 dc33 pm33 cd33 ct33 oc34 kV34 dc34 pm34 cd34 ct34 : Value} {tk_LETTERS tk_LONGEST_NAME tk_MOST_KINDS tk_MOST_TYPES : Tok}
    {nm_Refused q_Refused fl_Refused : Str} {N_Refused : Addr} {bs_Refused : List Value} {sn_Refused : List Str} {sub_Refused : List Value} {ab_Refused : Bool} {col_Refused : Option Bool} {dd_Refused : Option Addr} {m0_Refused m1_Refused m2_Refused m3_Refused m5_Refused : Option Value} {fI_Refused cc_Refused cda_Refused : Addr} {xc_Refused : Value} {xd_Refused : Option Addr} {xk_Refused xo_Refused xp_Refused xt_Refused ycl_Refused zcl_Refused : Value} {xa_Refused yd_Refused zd_Refused : Option Addr} {xs_Refused ys_Refused zs_Refused : Array (Option Value)} {vs_Refused : Array Value} {tf_Refused : Tok}
    {nm_DeskError q_DeskError : Str} {N_DeskError : Addr} {bs_DeskError : List Value} {sn_DeskError : List Str} {sub_DeskError : List Value} {ab_DeskError : Bool} {col_DeskError : Option Bool} {dd_DeskError : Option Addr} {m0_DeskError m1_DeskError m2_DeskError m3_DeskError m5_DeskError : Option Value}
    (aC_Table : PySem.W.nsIn K mainGlobals "Table" = some (some (.ref C_Table)))
    (a0 : PySem.W.findIn K (.ref C_Table) "__init__" = some (some (.ref f0)))
    (i0 : PySem.W.isFn K (.ref f0) = true)
    (l0 : K.lookup f0 = some ⟨oc0, od0, .func (PySem.W.fnOf "__init__" "Table.__init__" (fnArgs s_Table___init__) (fnBody s_Table___init__) (fnScope s_Table___init__) .none kV0 dc0 pm0 an0 cd0 ct0), sl0⟩)
    (c0 : PySem.W.codeIn K cd0 "Table.__init__" = true)
    (k0 : PySem.W.keepIn K (.ref f0) = true)
    (a1 : PySem.W.findIn K (.ref C_Table) "__eq__" = some (some (.ref f1)))
    (i1 : PySem.W.isFn K (.ref f1) = true)
    (l1 : K.lookup f1 = some ⟨oc1, od1, .func (PySem.W.fnOf "__eq__" "Table.__eq__" (fnArgs s_Table___eq__) (fnBody s_Table___eq__) (fnScope s_Table___eq__) .none kV1 dc1 pm1 an1 cd1 ct1), sl1⟩)
    (c1 : PySem.W.codeIn K cd1 "Table.__eq__" = true)
    (k1 : PySem.W.keepIn K (.ref f1) = true)
    (a2 : PySem.W.nsIn K mainGlobals "is_integer" = some (some (.ref f2)))
    (l2 : K.lookup f2 = some ⟨oc2, od2, .func (PySem.W.fnOf "is_integer" "is_integer" (fnArgs s_is_integer) (fnBody s_is_integer) (fnScope s_is_integer) .none kV2 dc2 pm2 an2 cd2 ct2), sl2⟩)
    (c2 : PySem.W.codeIn K cd2 "is_integer" = true)
    (k2 : PySem.W.keepIn K (.ref f2) = true)
    (a3 : PySem.W.nsIn K mainGlobals "is_number" = some (some (.ref f3)))
    (l3 : K.lookup f3 = some ⟨oc3, od3, .func (PySem.W.fnOf "is_number" "is_number" (fnArgs s_is_number) (fnBody s_is_number) (fnScope s_is_number) .none kV3 dc3 pm3 an3 cd3 ct3), sl3⟩)
    (c3 : PySem.W.codeIn K cd3 "is_number" = true)
    (k3 : PySem.W.keepIn K (.ref f3) = true)
    (a4 : PySem.W.nsIn K mainGlobals "is_name" = some (some (.ref f4)))
    (l4 : K.lookup f4 = some ⟨oc4, od4, .func (PySem.W.fnOf "is_name" "is_name" (fnArgs s_is_name) (fnBody s_is_name) (fnScope s_is_name) .none kV4 dc4 pm4 an4 cd4 ct4), sl4⟩)
    (c4 : PySem.W.codeIn K cd4 "is_name" = true)
    (k4 : PySem.W.keepIn K (.ref f4) = true)
    (a5 : PySem.W.nsIn K mainGlobals "are_numbers" = some (some (.ref f5)))
    (l5 : K.lookup f5 = some ⟨oc5, od5, .func (PySem.W.fnOf "are_numbers" "are_numbers" (fnArgs s_are_numbers) (fnBody s_are_numbers) (fnScope s_are_numbers) .none kV5 dc5 pm5 an5 cd5 ct5), sl5⟩)
    (c5 : PySem.W.codeIn K cd5 "are_numbers" = true)
    (k5 : PySem.W.keepIn K (.ref f5) = true)
    (a6 : PySem.W.nsIn K mainGlobals "is_ascending" = some (some (.ref f6)))
    (l6 : K.lookup f6 = some ⟨oc6, od6, .func (PySem.W.fnOf "is_ascending" "is_ascending" (fnArgs s_is_ascending) (fnBody s_is_ascending) (fnScope s_is_ascending) .none kV6 dc6 pm6 an6 cd6 ct6), sl6⟩)
    (c6 : PySem.W.codeIn K cd6 "is_ascending" = true)
    (k6 : PySem.W.keepIn K (.ref f6) = true)
    (a7 : PySem.W.nsIn K mainGlobals "is_listing" = some (some (.ref f7)))
    (l7 : K.lookup f7 = some ⟨oc7, od7, .func (PySem.W.fnOf "is_listing" "is_listing" (fnArgs s_is_listing) (fnBody s_is_listing) (fnScope s_is_listing) .none kV7 dc7 pm7 an7 cd7 ct7), sl7⟩)
    (c7 : PySem.W.codeIn K cd7 "is_listing" = true)
    (k7 : PySem.W.keepIn K (.ref f7) = true)
    (a8 : PySem.W.nsIn K mainGlobals "are_kinds" = some (some (.ref f8)))
    (l8 : K.lookup f8 = some ⟨oc8, od8, .func (PySem.W.fnOf "are_kinds" "are_kinds" (fnArgs s_are_kinds) (fnBody s_are_kinds) (fnScope s_are_kinds) .none kV8 dc8 pm8 an8 cd8 ct8), sl8⟩)
    (c8 : PySem.W.codeIn K cd8 "are_kinds" = true)
    (k8 : PySem.W.keepIn K (.ref f8) = true)
    (a9 : PySem.W.nsIn K mainGlobals "is_type" = some (some (.ref f9)))
    (l9 : K.lookup f9 = some ⟨oc9, od9, .func (PySem.W.fnOf "is_type" "is_type" (fnArgs s_is_type) (fnBody s_is_type) (fnScope s_is_type) .none kV9 dc9 pm9 an9 cd9 ct9), sl9⟩)
    (c9 : PySem.W.codeIn K cd9 "is_type" = true)
    (k9 : PySem.W.keepIn K (.ref f9) = true)
    (a10 : PySem.W.nsIn K mainGlobals "accepted" = some (some (.ref f10)))
    (l10 : K.lookup f10 = some ⟨oc10, od10, .func (PySem.W.fnOf "accepted" "accepted" (fnArgs s_accepted) (fnBody s_accepted) (fnScope s_accepted) .none kV10 dc10 pm10 an10 cd10 ct10), sl10⟩)
    (c10 : PySem.W.codeIn K cd10 "accepted" = true)
    (k10 : PySem.W.keepIn K (.ref f10) = true)
    (a11 : PySem.W.nsIn K mainGlobals "takers" = some (some (.ref f11)))
    (l11 : K.lookup f11 = some ⟨oc11, od11, .func (PySem.W.fnOf "takers" "takers" (fnArgs s_takers) (fnBody s_takers) (fnScope s_takers) .none kV11 dc11 pm11 an11 cd11 ct11), sl11⟩)
    (c11 : PySem.W.codeIn K cd11 "takers" = true)
    (k11 : PySem.W.keepIn K (.ref f11) = true)
    (a12 : PySem.W.nsIn K mainGlobals "units_in" = some (some (.ref f12)))
    (l12 : K.lookup f12 = some ⟨oc12, od12, .func (PySem.W.fnOf "units_in" "units_in" (fnArgs s_units_in) (fnBody s_units_in) (fnScope s_units_in) .none kV12 dc12 pm12 an12 cd12 ct12), sl12⟩)
    (c12 : PySem.W.codeIn K cd12 "units_in" = true)
    (k12 : PySem.W.keepIn K (.ref f12) = true)
    (a13 : PySem.W.nsIn K mainGlobals "offered_kinds" = some (some (.ref f13)))
    (l13 : K.lookup f13 = some ⟨oc13, od13, .func (PySem.W.fnOf "offered_kinds" "offered_kinds" (fnArgs s_offered_kinds) (fnBody s_offered_kinds) (fnScope s_offered_kinds) .none kV13 dc13 pm13 an13 cd13 ct13), sl13⟩)
    (c13 : PySem.W.codeIn K cd13 "offered_kinds" = true)
    (k13 : PySem.W.keepIn K (.ref f13) = true)
    (a14 : PySem.W.nsIn K mainGlobals "takers_beside" = some (some (.ref f14)))
    (l14 : K.lookup f14 = some ⟨oc14, od14, .func (PySem.W.fnOf "takers_beside" "takers_beside" (fnArgs s_takers_beside) (fnBody s_takers_beside) (fnScope s_takers_beside) .none kV14 dc14 pm14 an14 cd14 ct14), sl14⟩)
    (c14 : PySem.W.codeIn K cd14 "takers_beside" = true)
    (k14 : PySem.W.keepIn K (.ref f14) = true)
    (a15 : PySem.W.nsIn K mainGlobals "least_kinds" = some (some (.ref f15)))
    (l15 : K.lookup f15 = some ⟨oc15, od15, .func (PySem.W.fnOf "least_kinds" "least_kinds" (fnArgs s_least_kinds) (fnBody s_least_kinds) (fnScope s_least_kinds) .none kV15 dc15 pm15 an15 cd15 ct15), sl15⟩)
    (c15 : PySem.W.codeIn K cd15 "least_kinds" = true)
    (k15 : PySem.W.keepIn K (.ref f15) = true)
    (a16 : PySem.W.nsIn K mainGlobals "wrong_row" = some (some (.ref f16)))
    (l16 : K.lookup f16 = some ⟨oc16, od16, .func (PySem.W.fnOf "wrong_row" "wrong_row" (fnArgs s_wrong_row) (fnBody s_wrong_row) (fnScope s_wrong_row) .none kV16 dc16 pm16 an16 cd16 ct16), sl16⟩)
    (c16 : PySem.W.codeIn K cd16 "wrong_row" = true)
    (k16 : PySem.W.keepIn K (.ref f16) = true)
    (a17 : PySem.W.nsIn K mainGlobals "_law_heap" = some (some (.ref f17)))
    (l17 : K.lookup f17 = some ⟨oc17, od17, .func (PySem.W.fnOf "_law_heap" "_law_heap" (fnArgs s__law_heap) (fnBody s__law_heap) (fnScope s__law_heap) .none kV17 dc17 pm17 an17 cd17 ct17), sl17⟩)
    (c17 : PySem.W.codeIn K cd17 "_law_heap" = true)
    (k17 : PySem.W.keepIn K (.ref f17) = true)
    (a18 : PySem.W.nsIn K mainGlobals "_law_draw" = some (some (.ref f18)))
    (l18 : K.lookup f18 = some ⟨oc18, od18, .func (PySem.W.fnOf "_law_draw" "_law_draw" (fnArgs s__law_draw) (fnBody s__law_draw) (fnScope s__law_draw) .none kV18 dc18 pm18 an18 cd18 ct18), sl18⟩)
    (c18 : PySem.W.codeIn K cd18 "_law_draw" = true)
    (k18 : PySem.W.keepIn K (.ref f18) = true)
    (a19 : PySem.W.nsIn K mainGlobals "_law_pick" = some (some (.ref f19)))
    (l19 : K.lookup f19 = some ⟨oc19, od19, .func (PySem.W.fnOf "_law_pick" "_law_pick" (fnArgs s__law_pick) (fnBody s__law_pick) (fnScope s__law_pick) .none kV19 dc19 pm19 an19 cd19 ct19), sl19⟩)
    (c19 : PySem.W.codeIn K cd19 "_law_pick" = true)
    (k19 : PySem.W.keepIn K (.ref f19) = true)
    (a20 : PySem.W.nsIn K mainGlobals "_law_names" = some (some (.ref f20)))
    (l20 : K.lookup f20 = some ⟨oc20, od20, .func (PySem.W.fnOf "_law_names" "_law_names" (fnArgs s__law_names) (fnBody s__law_names) (fnScope s__law_names) .none kV20 dc20 pm20 an20 cd20 ct20), sl20⟩)
    (c20 : PySem.W.codeIn K cd20 "_law_names" = true)
    (k20 : PySem.W.keepIn K (.ref f20) = true)
    (a21 : PySem.W.nsIn K mainGlobals "_law_table" = some (some (.ref f21)))
    (l21 : K.lookup f21 = some ⟨oc21, od21, .func (PySem.W.fnOf "_law_table" "_law_table" (fnArgs s__law_table) (fnBody s__law_table) (fnScope s__law_table) .none kV21 dc21 pm21 an21 cd21 ct21), sl21⟩)
    (c21 : PySem.W.codeIn K cd21 "_law_table" = true)
    (k21 : PySem.W.keepIn K (.ref f21) = true)
    (a22 : PySem.W.nsIn K mainGlobals "_law_shuffled" = some (some (.ref f22)))
    (l22 : K.lookup f22 = some ⟨oc22, od22, .func (PySem.W.fnOf "_law_shuffled" "_law_shuffled" (fnArgs s__law_shuffled) (fnBody s__law_shuffled) (fnScope s__law_shuffled) .none kV22 dc22 pm22 an22 cd22 ct22), sl22⟩)
    (c22 : PySem.W.codeIn K cd22 "_law_shuffled" = true)
    (k22 : PySem.W.keepIn K (.ref f22) = true)
    (a23 : PySem.W.nsIn K mainGlobals "_law_lots" = some (some (.ref f23)))
    (l23 : K.lookup f23 = some ⟨oc23, od23, .func (PySem.W.fnOf "_law_lots" "_law_lots" (fnArgs s__law_lots) (fnBody s__law_lots) (fnScope s__law_lots) .none kV23 dc23 pm23 an23 cd23 ct23), sl23⟩)
    (c23 : PySem.W.codeIn K cd23 "_law_lots" = true)
    (k23 : PySem.W.keepIn K (.ref f23) = true)
    (a24 : PySem.W.nsIn K mainGlobals "_law_forest" = some (some (.ref f24)))
    (l24 : K.lookup f24 = some ⟨oc24, od24, .func (PySem.W.fnOf "_law_forest" "_law_forest" (fnArgs s__law_forest) (fnBody s__law_forest) (fnScope s__law_forest) .none kV24 dc24 pm24 an24 cd24 ct24), sl24⟩)
    (c24 : PySem.W.codeIn K cd24 "_law_forest" = true)
    (k24 : PySem.W.keepIn K (.ref f24) = true)
    (a25 : PySem.W.nsIn K mainGlobals "_law_is_number" = some (some (.ref f25)))
    (l25 : K.lookup f25 = some ⟨oc25, od25, .func (PySem.W.fnOf "_law_is_number" "_law_is_number" (fnArgs s__law_is_number) (fnBody s__law_is_number) (fnScope s__law_is_number) .none kV25 dc25 pm25 an25 cd25 ct25), sl25⟩)
    (c25 : PySem.W.codeIn K cd25 "_law_is_number" = true)
    (k25 : PySem.W.keepIn K (.ref f25) = true)
    (a26 : PySem.W.nsIn K mainGlobals "_law_same" = some (some (.ref f26)))
    (l26 : K.lookup f26 = some ⟨oc26, od26, .func (PySem.W.fnOf "_law_same" "_law_same" (fnArgs s__law_same) (fnBody s__law_same) (fnScope s__law_same) .none kV26 dc26 pm26 an26 cd26 ct26), sl26⟩)
    (c26 : PySem.W.codeIn K cd26 "_law_same" = true)
    (k26 : PySem.W.keepIn K (.ref f26) = true)
    (a27 : PySem.W.nsIn K mainGlobals "_law_start" = some (some (.ref f27)))
    (l27 : K.lookup f27 = some ⟨oc27, od27, .func (PySem.W.fnOf "_law_start" "_law_start" (fnArgs s__law_start) (fnBody s__law_start) (fnScope s__law_start) .none kV27 dc27 pm27 an27 cd27 ct27), sl27⟩)
    (c27 : PySem.W.codeIn K cd27 "_law_start" = true)
    (k27 : PySem.W.keepIn K (.ref f27) = true)
    (a28 : PySem.W.nsIn K mainGlobals "_law_way" = some (some (.ref f28)))
    (l28 : K.lookup f28 = some ⟨oc28, od28, .func (PySem.W.fnOf "_law_way" "_law_way" (fnArgs s__law_way) (fnBody s__law_way) (fnScope s__law_way) .none kV28 dc28 pm28 an28 cd28 ct28), sl28⟩)
    (c28 : PySem.W.codeIn K cd28 "_law_way" = true)
    (k28 : PySem.W.keepIn K (.ref f28) = true)
    (a29 : PySem.W.nsIn K mainGlobals "_law_add" = some (some (.ref f29)))
    (l29 : K.lookup f29 = some ⟨oc29, od29, .func (PySem.W.fnOf "_law_add" "_law_add" (fnArgs s__law_add) (fnBody s__law_add) (fnScope s__law_add) .none kV29 dc29 pm29 an29 cd29 ct29), sl29⟩)
    (c29 : PySem.W.codeIn K cd29 "_law_add" = true)
    (k29 : PySem.W.keepIn K (.ref f29) = true)
    (a30 : PySem.W.nsIn K mainGlobals "_law_least" = some (some (.ref f30)))
    (l30 : K.lookup f30 = some ⟨oc30, od30, .func (PySem.W.fnOf "_law_least" "_law_least" (fnArgs s__law_least) (fnBody s__law_least) (fnScope s__law_least) .none kV30 dc30 pm30 an30 cd30 ct30), sl30⟩)
    (c30 : PySem.W.codeIn K cd30 "_law_least" = true)
    (k30 : PySem.W.keepIn K (.ref f30) = true)
    (a31 : PySem.W.nsIn K mainGlobals "_law_shows" = some (some (.ref f31)))
    (l31 : K.lookup f31 = some ⟨oc31, od31, .func (PySem.W.fnOf "_law_shows" "_law_shows" (fnArgs s__law_shows) (fnBody s__law_shows) (fnScope s__law_shows) .none kV31 dc31 pm31 an31 cd31 ct31), sl31⟩)
    (c31 : PySem.W.codeIn K cd31 "_law_shows" = true)
    (k31 : PySem.W.keepIn K (.ref f31) = true)
    (a32 : PySem.W.nsIn K mainGlobals "_law_is_row" = some (some (.ref f32)))
    (l32 : K.lookup f32 = some ⟨oc32, od32, .func (PySem.W.fnOf "_law_is_row" "_law_is_row" (fnArgs s__law_is_row) (fnBody s__law_is_row) (fnScope s__law_is_row) .none kV32 dc32 pm32 an32 cd32 ct32), sl32⟩)
    (c32 : PySem.W.codeIn K cd32 "_law_is_row" = true)
    (k32 : PySem.W.keepIn K (.ref f32) = true)
    (a33 : PySem.W.nsIn K mainGlobals "_law_refused" = some (some (.ref f33)))
    (l33 : K.lookup f33 = some ⟨oc33, od33, .func (PySem.W.fnOf "_law_refused" "_law_refused" (fnArgs s__law_refused) (fnBody s__law_refused) (fnScope s__law_refused) .none kV33 dc33 pm33 an33 cd33 ct33), sl33⟩)
    (c33 : PySem.W.codeIn K cd33 "_law_refused" = true)
    (k33 : PySem.W.keepIn K (.ref f33) = true)
    (a34 : PySem.W.nsIn K mainGlobals "law" = some (some (.ref f34)))
    (l34 : K.lookup f34 = some ⟨oc34, od34, .func (PySem.W.fnOf "law" "law" (fnArgs s_law) (fnBody s_law) (fnScope s_law) .none kV34 dc34 pm34 an34 cd34 ct34), sl34⟩)
    (c34 : PySem.W.codeIn K cd34 "law" = true)
    (k34 : PySem.W.keepIn K (.ref f34) = true)
    (pg_Table : PySem.W.plainGet K C_Table Str.empty = true)
    (hd_Table : PySem.W.hasDictIn K C_Table = true)
    (po_Table : PySem.W.plainOver K C_Table = true)
    (sa_Table : PySem.W.findIn K (.ref C_Table) "__setattr__" = some (some (.builtin "object.__setattr__")))
    (mk_Table : PySem.W.makesIn K C_Table = true)
    (kc_Table : PySem.W.keepIn K (.ref C_Table) = true)
    (na_Table_kinds : PySem.W.findIn K (.ref C_Table) "kinds" = some none)
    (na_Table_types : PySem.W.findIn K (.ref C_Table) "types" = some none)
    (aC_DeskError : PySem.W.nsIn K mainGlobals "DeskError" = some (some (.ref C_DeskError)))
    (xL_DeskError : K.lookup C_DeskError = some (excClassObj nm_DeskError q_DeskError C_DeskError N_DeskError bs_DeskError [.type "ValueError", .type "Exception", .type "BaseException", .type "object"] true sn_DeskError sub_DeskError ab_DeskError col_DeskError dd_DeskError m0_DeskError m1_DeskError m2_DeskError m3_DeskError m5_DeskError "ValueError.__new__"))
    (fi_DeskError : PySem.W.findIn K (.ref C_DeskError) "__init__" = some (some (.builtin "ValueError.__init__")))
    (eC_DeskError : PySem.W.subIn K (.ref C_DeskError) (.type "BaseException") = some true)
    (hC_DeskError : PySem.W.hasDictIn K C_DeskError = true)
    (tC_DeskError : PySem.W.typeIn K (.ref C_DeskError) = some (.type "type"))
    (aC_Refused : PySem.W.nsIn K mainGlobals "Refused" = some (some (.ref C_Refused)))
    (xL_Refused : K.lookup C_Refused = some (excClassObj nm_Refused q_Refused C_Refused N_Refused bs_Refused [.ref C_DeskError, .type "ValueError", .type "Exception", .type "BaseException", .type "object"] true sn_Refused sub_Refused ab_Refused col_Refused dd_Refused m0_Refused m1_Refused m2_Refused m3_Refused m5_Refused "ValueError.__new__"))
    (sa_Refused : PySem.W.findIn K (.ref C_Refused) "__setattr__" = some (some (.builtin "object.__setattr__")))
    (ga_Refused : PySem.W.findIn K (.ref C_Refused) "__getattribute__" = some (some (.builtin "BaseException.__getattribute__")))
    (gg_Refused : PySem.W.findIn K (.ref C_Refused) "__getattr__" = some none)
    (nf_Refused : PySem.W.findIn K (.ref C_Refused) "word" = some none)
    (kC_Refused : PySem.W.keepIn K (.ref C_Refused) = true)
    (eC_Refused : PySem.W.subIn K (.ref C_Refused) (.type "BaseException") = some true)
    (tC_Refused : PySem.W.typeIn K (.ref C_Refused) = some (.type "type"))
    (hC_Refused : PySem.W.hasDictIn K C_Refused = true)
    (sV_Refused : PySem.W.subIn K (.ref C_Refused) (.type "ValueError") = some true)
    (sl_Refused : PySem.W.mroIn K C_Refused (.ref C_Refused) = some true)
    (sD_Refused : PySem.W.subIn K (.ref C_Refused) (.ref C_DeskError) = some true)
    (sS_Refused : PySem.W.subIn K (.ref C_Refused) (.ref C_Refused) = some true)
    (mo_Refused : PySem.W.mroIn K C_Refused (.type "object") = some true)
    (hc_Refused : PySem.W.findIn K (.ref C_Refused) "__class__" = some (some (.builtin "object.__class__")))
    (hn_Refused : PySem.W.specialIn K (.builtin "object.__class__") "__get__" = some (some (.builtin "getset_descriptor.__get__")))
    (ht_Refused : PySem.W.takesIn K (.builtin "object.__class__") = some true)
    (op_Refused : PySem.W.nsIn K PySem.cStatics "thirdparty.any" = some none)
    (su_Refused : PySem.W.nsIn K mainGlobals "super" = some none)
    (iC_Refused : PySem.W.findIn K (.ref C_Refused) "__init__" = some (some (.ref fI_Refused)))
    (tI_Refused : PySem.W.typeIn K (.ref fI_Refused) = some (.type "function"))
    (lI_Refused : K.lookup fI_Refused = some ⟨xc_Refused, xd_Refused, .func (PySem.W.fnX "__init__" "Refused.__init__" (fnArgs (inC 3 0)) (fnBody (inC 3 0)) (fnScope (inC 3 0)) [("__class__", cc_Refused)] .none xk_Refused xo_Refused xp_Refused xa_Refused (.ref cda_Refused) xt_Refused), xs_Refused⟩)
    (cI_Refused : PySem.W.codeIn K (.ref cda_Refused) "Refused.__init__" = true)
    (lc_Refused : K.lookup cc_Refused = some ⟨ycl_Refused, yd_Refused, .cell (some (.ref C_Refused)), ys_Refused⟩)
    (ld_Refused : K.lookup cda_Refused = some ⟨zcl_Refused, zd_Refused, .fields vs_Refused, zs_Refused⟩)
    (hv_Refused : vs_Refused[2]? = some (.str fl_Refused tf_Refused))
    (hf_Refused : ((l.prog.main.file : Str) == fl_Refused) = true)
    (tp_Refused : (l.prog.main.scope.names.lookup ("super" : Str)).isSome = false)
    (z_abs : PySem.W.nsIn K mainGlobals "abs" = some none)
    (z_all : PySem.W.nsIn K mainGlobals "all" = some none)
    (z_bool : PySem.W.nsIn K mainGlobals "bool" = some none)
    (z_enumerate : PySem.W.nsIn K mainGlobals "enumerate" = some none)
    (z_int : PySem.W.nsIn K mainGlobals "int" = some none)
    (z_isinstance : PySem.W.nsIn K mainGlobals "isinstance" = some none)
    (z_len : PySem.W.nsIn K mainGlobals "len" = some none)
    (z_list : PySem.W.nsIn K mainGlobals "list" = some none)
    (z_range : PySem.W.nsIn K mainGlobals "range" = some none)
    (z_sorted : PySem.W.nsIn K mainGlobals "sorted" = some none)
    (z_str : PySem.W.nsIn K mainGlobals "str" = some none)
    (z_sum : PySem.W.nsIn K mainGlobals "sum" = some none)
    (z_tuple : PySem.W.nsIn K mainGlobals "tuple" = some none)
    (g_LETTERS : PySem.W.nsIn K mainGlobals "LETTERS" = some (some (.str "abcdefghijklmnopqrstuvwxyz" tk_LETTERS)))
    (g_LONGEST_NAME : PySem.W.nsIn K mainGlobals "LONGEST_NAME" = some (some (.int 8 tk_LONGEST_NAME)))
    (g_MOST_KINDS : PySem.W.nsIn K mainGlobals "MOST_KINDS" = some (some (.int 8 tk_MOST_KINDS)))
    (g_MOST_TYPES : PySem.W.nsIn K mainGlobals "MOST_TYPES" = some (some (.int 12 tk_MOST_TYPES)))
    : ∃ fd : FuncData, (∀ (s : Shared) (v : Value), BindsTo s fd ⟨[v], []⟩ [("script", v)]) ∧ ∀ base : Heap, K.In base → base.Ns mainGlobals mg → FnOk l.prog w K mg base C8.CX0 9 fa fd ["script"] (spLaw K) := by
  have e := hfa.symm.trans (PySem.W.mg_of X G a34)
  cases e
  have F0 : C8.Fun K "__init__" "Table.__init__" s_Table___init__ _ _ := ⟨⟨_, _, _, _, _, _, _, _, _, _, rfl, l0, c0⟩⟩
  have b0 := F0.binds rfl (ps := ["self", "kinds", "types"]) fun _ _ _ _ _ _ us hl => match us, hl with | [_, _, _], _ => rfl
  have F1 : C8.Fun K "__eq__" "Table.__eq__" s_Table___eq__ _ _ := ⟨⟨_, _, _, _, _, _, _, _, _, _, rfl, l1, c1⟩⟩
  have b1 := F1.binds rfl (ps := ["self", "other"]) fun _ _ _ _ _ _ us hl => match us, hl with | [_, _], _ => rfl
  have F2 : C8.Fun K "is_integer" "is_integer" s_is_integer _ _ := ⟨⟨_, _, _, _, _, _, _, _, _, _, rfl, l2, c2⟩⟩
  have b2 := F2.binds rfl (ps := ["value"]) fun _ _ _ _ _ _ us hl => match us, hl with | [_], _ => rfl
  have F3 : C8.Fun K "is_number" "is_number" s_is_number _ _ := ⟨⟨_, _, _, _, _, _, _, _, _, _, rfl, l3, c3⟩⟩
  have b3 := F3.binds rfl (ps := ["value"]) fun _ _ _ _ _ _ us hl => match us, hl with | [_], _ => rfl
  have F4 : C8.Fun K "is_name" "is_name" s_is_name _ _ := ⟨⟨_, _, _, _, _, _, _, _, _, _, rfl, l4, c4⟩⟩
  have b4 := F4.binds rfl (ps := ["value"]) fun _ _ _ _ _ _ us hl => match us, hl with | [_], _ => rfl
  have F5 : C8.Fun K "are_numbers" "are_numbers" s_are_numbers _ _ := ⟨⟨_, _, _, _, _, _, _, _, _, _, rfl, l5, c5⟩⟩
  have b5 := F5.binds rfl (ps := ["value"]) fun _ _ _ _ _ _ us hl => match us, hl with | [_], _ => rfl
  have F6 : C8.Fun K "is_ascending" "is_ascending" s_is_ascending _ _ := ⟨⟨_, _, _, _, _, _, _, _, _, _, rfl, l6, c6⟩⟩
  have b6 := F6.binds rfl (ps := ["items"]) fun _ _ _ _ _ _ us hl => match us, hl with | [_], _ => rfl
  have F7 : C8.Fun K "is_listing" "is_listing" s_is_listing _ _ := ⟨⟨_, _, _, _, _, _, _, _, _, _, rfl, l7, c7⟩⟩
  have b7 := F7.binds rfl (ps := ["value", "bound"]) fun _ _ _ _ _ _ us hl => match us, hl with | [_, _], _ => rfl
  have F8 : C8.Fun K "are_kinds" "are_kinds" s_are_kinds _ _ := ⟨⟨_, _, _, _, _, _, _, _, _, _, rfl, l8, c8⟩⟩
  have b8 := F8.binds rfl (ps := ["value"]) fun _ _ _ _ _ _ us hl => match us, hl with | [_], _ => rfl
  have F9 : C8.Fun K "is_type" "is_type" s_is_type _ _ := ⟨⟨_, _, _, _, _, _, _, _, _, _, rfl, l9, c9⟩⟩
  have b9 := F9.binds rfl (ps := ["kinds", "value", "last"]) fun _ _ _ _ _ _ us hl => match us, hl with | [_, _, _], _ => rfl
  have F10 : C8.Fun K "accepted" "accepted" s_accepted _ _ := ⟨⟨_, _, _, _, _, _, _, _, _, _, rfl, l10, c10⟩⟩
  have b10 := F10.binds rfl (ps := ["table", "request"]) fun _ _ _ _ _ _ us hl => match us, hl with | [_, _], _ => rfl
  have F11 : C8.Fun K "takers" "takers" s_takers _ _ := ⟨⟨_, _, _, _, _, _, _, _, _, _, rfl, l11, c11⟩⟩
  have b11 := F11.binds rfl (ps := ["table", "kind"]) fun _ _ _ _ _ _ us hl => match us, hl with | [_, _], _ => rfl
  have F12 : C8.Fun K "units_in" "units_in" s_units_in _ _ := ⟨⟨_, _, _, _, _, _, _, _, _, _, rfl, l12, c12⟩⟩
  have b12 := F12.binds rfl (ps := ["stock", "kinds"]) fun _ _ _ _ _ _ us hl => match us, hl with | [_, _], _ => rfl
  have F13 : C8.Fun K "offered_kinds" "offered_kinds" s_offered_kinds _ _ := ⟨⟨_, _, _, _, _, _, _, _, _, _, rfl, l13, c13⟩⟩
  have b13 := F13.binds rfl (ps := ["table", "stock", "request"]) fun _ _ _ _ _ _ us hl => match us, hl with | [_, _, _], _ => rfl
  have F14 : C8.Fun K "takers_beside" "takers_beside" s_takers_beside _ _ := ⟨⟨_, _, _, _, _, _, _, _, _, _, rfl, l14, c14⟩⟩
  have b14 := F14.binds rfl (ps := ["table", "kind", "other"]) fun _ _ _ _ _ _ us hl => match us, hl with | [_, _, _], _ => rfl
  have F15 : C8.Fun K "least_kinds" "least_kinds" s_least_kinds _ _ := ⟨⟨_, _, _, _, _, _, _, _, _, _, rfl, l15, c15⟩⟩
  have b15 := F15.binds rfl (ps := ["table", "stock", "request"]) fun _ _ _ _ _ _ us hl => match us, hl with | [_, _, _], _ => rfl
  have F16 : C8.Fun K "wrong_row" "wrong_row" s_wrong_row _ _ := ⟨⟨_, _, _, _, _, _, _, _, _, _, rfl, l16, c16⟩⟩
  have b16 := F16.binds rfl (ps := ["table", "stock", "request", "kind"]) fun _ _ _ _ _ _ us hl => match us, hl with | [_, _, _, _], _ => rfl
  have F17 : C8.Fun K "_law_heap" "_law_heap" s__law_heap _ _ := ⟨⟨_, _, _, _, _, _, _, _, _, _, rfl, l17, c17⟩⟩
  have b17 := F17.binds rfl (ps := ["script"]) fun _ _ _ _ _ _ us hl => match us, hl with | [_], _ => rfl
  have F18 : C8.Fun K "_law_draw" "_law_draw" s__law_draw _ _ := ⟨⟨_, _, _, _, _, _, _, _, _, _, rfl, l18, c18⟩⟩
  have b18 := F18.binds rfl (ps := ["heap", "many"]) fun _ _ _ _ _ _ us hl => match us, hl with | [_, _], _ => rfl
  have F19 : C8.Fun K "_law_pick" "_law_pick" s__law_pick _ _ := ⟨⟨_, _, _, _, _, _, _, _, _, _, rfl, l19, c19⟩⟩
  have b19 := F19.binds rfl (ps := ["heap", "some"]) fun _ _ _ _ _ _ us hl => match us, hl with | [_, _], _ => rfl
  have F20 : C8.Fun K "_law_names" "_law_names" s__law_names _ _ := ⟨⟨_, _, _, _, _, _, _, _, _, _, rfl, l20, c20⟩⟩
  have b20 := F20.binds rfl (ps := ["heap", "many"]) fun _ _ _ _ _ _ us hl => match us, hl with | [_, _], _ => rfl
  have F21 : C8.Fun K "_law_table" "_law_table" s__law_table _ _ := ⟨⟨_, _, _, _, _, _, _, _, _, _, rfl, l21, c21⟩⟩
  have b21 := F21.binds rfl (ps := ["heap", "kinds", "lots"]) fun _ _ _ _ _ _ us hl => match us, hl with | [_, _, _], _ => rfl
  have F22 : C8.Fun K "_law_shuffled" "_law_shuffled" s__law_shuffled _ _ := ⟨⟨_, _, _, _, _, _, _, _, _, _, rfl, l22, c22⟩⟩
  have b22 := F22.binds rfl (ps := ["heap", "some"]) fun _ _ _ _ _ _ us hl => match us, hl with | [_, _], _ => rfl
  have F23 : C8.Fun K "_law_lots" "_law_lots" s__law_lots _ _ := ⟨⟨_, _, _, _, _, _, _, _, _, _, rfl, l23, c23⟩⟩
  have b23 := F23.binds rfl (ps := ["heap", "kinds", "many"]) fun _ _ _ _ _ _ us hl => match us, hl with | [_, _, _], _ => rfl
  have F24 : C8.Fun K "_law_forest" "_law_forest" s__law_forest _ _ := ⟨⟨_, _, _, _, _, _, _, _, _, _, rfl, l24, c24⟩⟩
  have b24 := F24.binds rfl (ps := ["heap", "kinds", "many"]) fun _ _ _ _ _ _ us hl => match us, hl with | [_, _, _], _ => rfl
  have F25 : C8.Fun K "_law_is_number" "_law_is_number" s__law_is_number _ _ := ⟨⟨_, _, _, _, _, _, _, _, _, _, rfl, l25, c25⟩⟩
  have b25 := F25.binds rfl (ps := ["value", "bound"]) fun _ _ _ _ _ _ us hl => match us, hl with | [_, _], _ => rfl
  have F26 : C8.Fun K "_law_same" "_law_same" s__law_same _ _ := ⟨⟨_, _, _, _, _, _, _, _, _, _, rfl, l26, c26⟩⟩
  have b26 := F26.binds rfl (ps := ["told", "due"]) fun _ _ _ _ _ _ us hl => match us, hl with | [_, _], _ => rfl
  have F27 : C8.Fun K "_law_start" "_law_start" s__law_start _ _ := ⟨⟨_, _, _, _, _, _, _, _, _, _, rfl, l27, c27⟩⟩
  have b27 := F27.binds rfl (ps := ["lots", "stock"]) fun _ _ _ _ _ _ us hl => match us, hl with | [_, _], _ => rfl
  have F28 : C8.Fun K "_law_way" "_law_way" s__law_way _ _ := ⟨⟨_, _, _, _, _, _, _, _, _, _, rfl, l28, c28⟩⟩
  have b28 := F28.binds rfl (ps := ["lots", "state", "start"]) fun _ _ _ _ _ _ us hl => match us, hl with | [_, _, _], _ => rfl
  have F29 : C8.Fun K "_law_add" "_law_add" s__law_add _ _ := ⟨⟨_, _, _, _, _, _, _, _, _, _, rfl, l29, c29⟩⟩
  have b29 := F29.binds rfl (ps := ["lots", "state", "request"]) fun _ _ _ _ _ _ us hl => match us, hl with | [_, _, _], _ => rfl
  have F30 : C8.Fun K "_law_least" "_law_least" s__law_least _ _ := ⟨⟨_, _, _, _, _, _, _, _, _, _, rfl, l30, c30⟩⟩
  have b30 := F30.binds rfl (ps := ["lots", "hand"]) fun _ _ _ _ _ _ us hl => match us, hl with | [_, _], _ => rfl
  have F31 : C8.Fun K "_law_shows" "_law_shows" s__law_shows _ _ := ⟨⟨_, _, _, _, _, _, _, _, _, _, rfl, l31, c31⟩⟩
  have b31 := F31.binds rfl (ps := ["lots", "stock", "pair", "row"]) fun _ _ _ _ _ _ us hl => match us, hl with | [_, _, _, _], _ => rfl
  have F32 : C8.Fun K "_law_is_row" "_law_is_row" s__law_is_row _ _ := ⟨⟨_, _, _, _, _, _, _, _, _, _, rfl, l32, c32⟩⟩
  have b32 := F32.binds rfl (ps := ["told", "many"]) fun _ _ _ _ _ _ us hl => match us, hl with | [_, _], _ => rfl
  have F33 : C8.Fun K "_law_refused" "_law_refused" s__law_refused _ _ := ⟨⟨_, _, _, _, _, _, _, _, _, _, rfl, l33, c33⟩⟩
  have b33 := F33.binds rfl (ps := ["table", "stock", "request", "value"]) fun _ _ _ _ _ _ us hl => match us, hl with | [_, _, _, _], _ => rfl
  have F34 : C8.Fun K "law" "law" s_law _ _ := ⟨⟨_, _, _, _, _, _, _, _, _, _, rfl, l34, c34⟩⟩
  have b34 := F34.binds rfl (ps := ["script"]) fun _ _ _ _ _ _ us hl => match us, hl with | [_], _ => rfl
  have hsup_Refused : PySem.W.ks_superIn K C_Refused C_Refused "__init__" = some (some (.builtin "ValueError.__init__")) := KP.sup_of xL_Refused xL_DeskError fi_DeskError
  have sx_Refused : PySem.KPX.SupX l.prog K mg "Refused" "word" C_Refused := { gC := PySem.W.mg_of X G aC_Refused, cls := ⟨_, _, _, _, _, _, _, _, _, _, _, _, _, _, _, xL_Refused, rfl⟩, sa := sa_Refused, ga := ga_Refused, gg := gg_Refused, noF := nf_Refused, kC := kC_Refused, exC := eC_Refused, tyC := tC_Refused, hdC := hC_Refused, sup := hsup_Refused, subV := sV_Refused, slf := sl_Refused, ms := PySem.W.mg_none_of X G su_Refused, opq := op_Refused, top := tp_Refused, fn := ⟨fI_Refused, cc_Refused, cda_Refused, _, _, _, _, _, _, _, _, _, _, _, _, _, _, _, _, _, _, _, _, _, _, _, _, _, _, _, _, _, _, _, _, _, _, iC_Refused, tI_Refused, lI_Refused, cI_Refused, lc_Refused, ld_Refused, hv_Refused, hf_Refused, by decide +kernel, fun _ _ => rfl, _, fun _ => rfl⟩ }
  have T : Txt l.prog K mg C_Table C_Refused C_DeskError := {
    m_abs := PySem.W.mg_none_of X G z_abs
    m_all := PySem.W.mg_none_of X G z_all
    m_bool := PySem.W.mg_none_of X G z_bool
    m_enumerate := PySem.W.mg_none_of X G z_enumerate
    m_int := PySem.W.mg_none_of X G z_int
    m_isinstance := PySem.W.mg_none_of X G z_isinstance
    m_len := PySem.W.mg_none_of X G z_len
    m_list := PySem.W.mg_none_of X G z_list
    m_range := PySem.W.mg_none_of X G z_range
    m_sorted := PySem.W.mg_none_of X G z_sorted
    m_str := PySem.W.mg_none_of X G z_str
    m_sum := PySem.W.mg_none_of X G z_sum
    m_tuple := PySem.W.mg_none_of X G z_tuple
    g_LETTERS := ⟨_, PySem.W.mg_of X G g_LETTERS, ⟨_, rfl⟩⟩
    g_LONGEST_NAME := ⟨_, PySem.W.mg_of X G g_LONGEST_NAME, ⟨_, rfl⟩⟩
    g_MOST_KINDS := ⟨_, PySem.W.mg_of X G g_MOST_KINDS, ⟨_, rfl⟩⟩
    g_MOST_TYPES := ⟨_, PySem.W.mg_of X G g_MOST_TYPES, ⟨_, rfl⟩⟩
    k_Table := ⟨_, _, ⟨mk_Table, a0, i0, kc_Table⟩, PySem.W.mg_of X G aC_Table, F0, b0⟩
    d_Table___eq__ := ⟨_, _, ⟨a1, i1, k1⟩, F1, b1⟩
    d_is_integer := ⟨_, _, ⟨F2, PySem.W.mg_of X G a2, k2⟩, b2⟩
    d_is_number := ⟨_, _, ⟨F3, PySem.W.mg_of X G a3, k3⟩, b3⟩
    d_is_name := ⟨_, _, ⟨F4, PySem.W.mg_of X G a4, k4⟩, b4⟩
    d_are_numbers := ⟨_, _, ⟨F5, PySem.W.mg_of X G a5, k5⟩, b5⟩
    d_is_ascending := ⟨_, _, ⟨F6, PySem.W.mg_of X G a6, k6⟩, b6⟩
    d_is_listing := ⟨_, _, ⟨F7, PySem.W.mg_of X G a7, k7⟩, b7⟩
    d_are_kinds := ⟨_, _, ⟨F8, PySem.W.mg_of X G a8, k8⟩, b8⟩
    d_is_type := ⟨_, _, ⟨F9, PySem.W.mg_of X G a9, k9⟩, b9⟩
    d_accepted := ⟨_, _, ⟨F10, PySem.W.mg_of X G a10, k10⟩, b10⟩
    d_takers := ⟨_, _, ⟨F11, PySem.W.mg_of X G a11, k11⟩, b11⟩
    d_units_in := ⟨_, _, ⟨F12, PySem.W.mg_of X G a12, k12⟩, b12⟩
    d_offered_kinds := ⟨_, _, ⟨F13, PySem.W.mg_of X G a13, k13⟩, b13⟩
    d_takers_beside := ⟨_, _, ⟨F14, PySem.W.mg_of X G a14, k14⟩, b14⟩
    d_least_kinds := ⟨_, _, ⟨F15, PySem.W.mg_of X G a15, k15⟩, b15⟩
    d_wrong_row := ⟨_, _, ⟨F16, PySem.W.mg_of X G a16, k16⟩, b16⟩
    d__law_heap := ⟨_, _, ⟨F17, PySem.W.mg_of X G a17, k17⟩, b17⟩
    d__law_draw := ⟨_, _, ⟨F18, PySem.W.mg_of X G a18, k18⟩, b18⟩
    d__law_pick := ⟨_, _, ⟨F19, PySem.W.mg_of X G a19, k19⟩, b19⟩
    d__law_names := ⟨_, _, ⟨F20, PySem.W.mg_of X G a20, k20⟩, b20⟩
    d__law_table := ⟨_, _, ⟨F21, PySem.W.mg_of X G a21, k21⟩, b21⟩
    d__law_shuffled := ⟨_, _, ⟨F22, PySem.W.mg_of X G a22, k22⟩, b22⟩
    d__law_lots := ⟨_, _, ⟨F23, PySem.W.mg_of X G a23, k23⟩, b23⟩
    d__law_forest := ⟨_, _, ⟨F24, PySem.W.mg_of X G a24, k24⟩, b24⟩
    d__law_is_number := ⟨_, _, ⟨F25, PySem.W.mg_of X G a25, k25⟩, b25⟩
    d__law_same := ⟨_, _, ⟨F26, PySem.W.mg_of X G a26, k26⟩, b26⟩
    d__law_start := ⟨_, _, ⟨F27, PySem.W.mg_of X G a27, k27⟩, b27⟩
    d__law_way := ⟨_, _, ⟨F28, PySem.W.mg_of X G a28, k28⟩, b28⟩
    d__law_add := ⟨_, _, ⟨F29, PySem.W.mg_of X G a29, k29⟩, b29⟩
    d__law_least := ⟨_, _, ⟨F30, PySem.W.mg_of X G a30, k30⟩, b30⟩
    d__law_shows := ⟨_, _, ⟨F31, PySem.W.mg_of X G a31, k31⟩, b31⟩
    d__law_is_row := ⟨_, _, ⟨F32, PySem.W.mg_of X G a32, k32⟩, b32⟩
    d__law_refused := ⟨_, _, ⟨F33, PySem.W.mg_of X G a33, k33⟩, b33⟩
    d_law := ⟨_, _, ⟨F34, PySem.W.mg_of X G a34, k34⟩, b34⟩
    sx_Refused := sx_Refused
    ed_Refused := ⟨ga_Refused, gg_Refused, eC_Refused, hC_Refused, hc_Refused, hn_Refused, ht_Refused, mo_Refused⟩
    gC_Refused := PySem.W.mg_of X G aC_Refused
    te_Refused_Refused := PySem.W.exm_ref eC_Refused hC_Refused tC_Refused sS_Refused
    te_Refused_DeskError := PySem.W.exm_ref eC_DeskError hC_DeskError tC_DeskError sD_Refused
    gC_DeskError := PySem.W.mg_of X G aC_DeskError
    cl_Table := ⟨pg_Table, hd_Table, po_Table, sa_Table⟩
    gC_Table := PySem.W.mg_of X G aC_Table
    na_Table_kinds := na_Table_kinds
    na_Table_types := na_Table_types
  }
  exact ⟨_, fun s v => .of_eq rfl, fun base _ _ => ok_law T F34⟩
end K85
open PySem PySem.W PyProof.Rows
set_option maxHeartbeats 0 in
theorem PySem.Challenge.cw_neverregret_k85_whole_least_kinds_of_gre_holds : PySem.Challenge.rw_neverregret_k85_whole_least_kinds_of_gre.Holds := by
  w_on; o_law; k_head; (case hw => w_witness2)
  k_fill
  refine L2.walk_of (l := PySem.Challenge.rw_neverregret_k85_whole_least_kinds_of_gre) (n := 63) (k := 9) (x := "script") (CX := fun _ => C8.CX0) (sp := fun w => K85.spLaw _) rfl (by decide) rfl ⟨rfl, by decide, by decide⟩ (fun w h Y => PySem.W.kIn_of Y) ?F (fun _ _ a ns hl _ hS => ⟨a, ns, rfl, hS, hl, fun _ => rfl⟩) (fun _ _ _ _ _ h => h)
  case F =>
    intro w mg fa h KX G hmg
    refine' K85.all_mk KX G hmg ?aC_Table ?a0 ?i0 ?l0 ?c0 ?k0 ?a1 ?i1 ?l1 ?c1 ?k1 ?a2 ?l2 ?c2 ?k2 ?a3 ?l3 ?c3 ?k3 ?a4 ?l4 ?c4 ?k4 ?a5 ?l5 ?c5 ?k5 ?a6 ?l6 ?c6 ?k6 ?a7 ?l7 ?c7 ?k7 ?a8 ?l8 ?c8 ?k8 ?a9 ?l9 ?c9 ?k9 ?a10 ?l10 ?c10 ?k10 ?a11 ?l11 ?c11 ?k11 ?a12 ?l12 ?c12 ?k12 ?a13 ?l13 ?c13 ?k13 ?a14 ?l14 ?c14 ?k14 ?a15 ?l15 ?c15 ?k15 ?a16 ?l16 ?c16 ?k16 ?a17 ?l17 ?c17 ?k17 ?a18 ?l18 ?c18 ?k18 ?a19 ?l19 ?c19 ?k19 ?a20 ?l20 ?c20 ?k20 ?a21 ?l21 ?c21 ?k21 ?a22 ?l22 ?c22 ?k22 ?a23 ?l23 ?c23 ?k23 ?a24 ?l24 ?c24 ?k24 ?a25 ?l25 ?c25 ?k25 ?a26 ?l26 ?c26 ?k26 ?a27 ?l27 ?c27 ?k27 ?a28 ?l28 ?c28 ?k28 ?a29 ?l29 ?c29 ?k29 ?a30 ?l30 ?c30 ?k30 ?a31 ?l31 ?c31 ?k31 ?a32 ?l32 ?c32 ?k32 ?a33 ?l33 ?c33 ?k33 ?a34 ?l34 ?c34 ?k34 ?pg_Table ?hd_Table ?po_Table ?sa_Table ?mk_Table ?kc_Table ?na_Table_kinds ?na_Table_types ?aC_DeskError ?xL_DeskError ?fi_DeskError ?eC_DeskError ?hC_DeskError ?tC_DeskError ?aC_Refused ?xL_Refused ?sa_Refused ?ga_Refused ?gg_Refused ?nf_Refused ?kC_Refused ?eC_Refused ?tC_Refused ?hC_Refused ?sV_Refused ?sl_Refused ?sD_Refused ?sS_Refused ?mo_Refused ?hc_Refused ?hn_Refused ?ht_Refused ?op_Refused ?su_Refused ?iC_Refused ?tI_Refused ?lI_Refused ?cI_Refused ?lc_Refused ?ld_Refused ?hv_Refused ?hf_Refused ?tp_Refused ?z_abs ?z_all ?z_bool ?z_enumerate ?z_int ?z_isinstance ?z_len ?z_list ?z_range ?z_sorted ?z_str ?z_sum ?z_tuple ?g_LETTERS ?g_LONGEST_NAME ?g_MOST_KINDS ?g_MOST_TYPES
    (case aC_Table => k_is); (case a0 => k_is); (case i0 => k_is); (case l0 => k_is); (case c0 => k_is); (case k0 => k_is); (case a1 => k_is); (case i1 => k_is); (case l1 => k_is); (case c1 => k_is); (case k1 => k_is); (case a2 => k_is); (case l2 => k_is); (case c2 => k_is); (case k2 => k_is); (case a3 => k_is); (case l3 => k_is); (case c3 => k_is); (case k3 => k_is); (case a4 => k_is); (case l4 => k_is); (case c4 => k_is); (case k4 => k_is); (case a5 => k_is); (case l5 => k_is); (case c5 => k_is); (case k5 => k_is); (case a6 => k_is); (case l6 => k_is); (case c6 => k_is); (case k6 => k_is); (case a7 => k_is); (case l7 => k_is); (case c7 => k_is); (case k7 => k_is); (case a8 => k_is); (case l8 => k_is); (case c8 => k_is); (case k8 => k_is); (case a9 => k_is); (case l9 => k_is); (case c9 => k_is); (case k9 => k_is); (case a10 => k_is); (case l10 => k_is); (case c10 => k_is); (case k10 => k_is); (case a11 => k_is); (case l11 => k_is); (case c11 => k_is); (case k11 => k_is); (case a12 => k_is); (case l12 => k_is); (case c12 => k_is); (case k12 => k_is); (case a13 => k_is); (case l13 => k_is); (case c13 => k_is); (case k13 => k_is); (case a14 => k_is); (case l14 => k_is); (case c14 => k_is); (case k14 => k_is); (case a15 => k_is); (case l15 => k_is); (case c15 => k_is); (case k15 => k_is); (case a16 => k_is); (case l16 => k_is); (case c16 => k_is); (case k16 => k_is); (case a17 => k_is); (case l17 => k_is); (case c17 => k_is); (case k17 => k_is); (case a18 => k_is); (case l18 => k_is); (case c18 => k_is); (case k18 => k_is); (case a19 => k_is); (case l19 => k_is); (case c19 => k_is); (case k19 => k_is); (case a20 => k_is); (case l20 => k_is); (case c20 => k_is); (case k20 => k_is); (case a21 => k_is); (case l21 => k_is); (case c21 => k_is); (case k21 => k_is); (case a22 => k_is); (case l22 => k_is); (case c22 => k_is); (case k22 => k_is); (case a23 => k_is); (case l23 => k_is); (case c23 => k_is); (case k23 => k_is); (case a24 => k_is); (case l24 => k_is); (case c24 => k_is); (case k24 => k_is); (case a25 => k_is); (case l25 => k_is); (case c25 => k_is); (case k25 => k_is); (case a26 => k_is); (case l26 => k_is); (case c26 => k_is); (case k26 => k_is); (case a27 => k_is); (case l27 => k_is); (case c27 => k_is); (case k27 => k_is); (case a28 => k_is); (case l28 => k_is); (case c28 => k_is); (case k28 => k_is); (case a29 => k_is); (case l29 => k_is); (case c29 => k_is); (case k29 => k_is); (case a30 => k_is); (case l30 => k_is); (case c30 => k_is); (case k30 => k_is); (case a31 => k_is); (case l31 => k_is); (case c31 => k_is); (case k31 => k_is); (case a32 => k_is); (case l32 => k_is); (case c32 => k_is); (case k32 => k_is); (case a33 => k_is); (case l33 => k_is); (case c33 => k_is); (case k33 => k_is); (case a34 => k_is); (case l34 => k_is); (case c34 => k_is); (case k34 => k_is); (case pg_Table => k_is); (case hd_Table => k_is); (case po_Table => k_is); (case sa_Table => k_is); (case mk_Table => k_is); (case kc_Table => k_is); (case na_Table_kinds => k_is); (case na_Table_types => k_is); (case aC_DeskError => k_is); (case xL_DeskError => k_is); (case fi_DeskError => k_is); (case eC_DeskError => k_is); (case hC_DeskError => k_is); (case tC_DeskError => k_is); (case aC_Refused => k_is); (case xL_Refused => k_is); (case sa_Refused => k_is); (case ga_Refused => k_is); (case gg_Refused => k_is); (case nf_Refused => k_is); (case kC_Refused => k_is); (case eC_Refused => k_is); (case tC_Refused => k_is); (case hC_Refused => k_is); (case sV_Refused => k_is); (case sl_Refused => k_is); (case sD_Refused => k_is); (case sS_Refused => first | rfl | k_is); (case mo_Refused => k_is); (case hc_Refused => k_is); (case hn_Refused => k_is); (case ht_Refused => k_is); (case op_Refused => k_is); (case su_Refused => k_is); (case iC_Refused => k_is); (case tI_Refused => k_is); (case lI_Refused => k_is); (case cI_Refused => k_is); (case lc_Refused => k_is); (case ld_Refused => k_is); (case hv_Refused => first | rfl | decide +kernel | kernel_rfl); (case hf_Refused => first | rfl | decide +kernel | kernel_rfl); (case tp_Refused => first | rfl | decide +kernel | kernel_rfl); (case z_abs => k_is); (case z_all => k_is); (case z_bool => k_is); (case z_enumerate => k_is); (case z_int => k_is); (case z_isinstance => k_is); (case z_len => k_is); (case z_list => k_is); (case z_range => k_is); (case z_sorted => k_is); (case z_str => k_is); (case z_sum => k_is); (case z_tuple => k_is); (case g_LETTERS => k_is); (case g_LONGEST_NAME => k_is); (case g_MOST_KINDS => k_is); (case g_MOST_TYPES => k_is)
