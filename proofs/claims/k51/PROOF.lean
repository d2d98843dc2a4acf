import PyProof.Rows.All
import Wide.All
import OpenK.AllK
import Wide.FinOn
import HandS.ForMost
import HandS.Evl
import HandS.Star
import HandS.Codes
import HandS.IsInst
import HandS.Strs
import HandS.SetFor
import HandS.SetBool
import HandS.Small
import HandS.Style
import HandS.Conv
import HandS.Zip
import HandS.TupAny
import HandS.SortInts
import HandS.Defaults
import HandS.Exc
import HandS.ExcSuper
import HandS.TryOnly
import HandS.WordsExc
import KE.GoesEnum
import KE.GoesMore
import KE.KExcSuper
import HandS.ExcInit
import KE.RegKSuper
import PySem.Challenge.RW_bodyforbody_k51_whole_agreeing_counts_ar
set_option Elab.async false
set_option linter.all false
set_option maxRecDepth 100000
set_option maxHeartbeats 4000000
/-! Rules of our own. -/
namespace Bf
open PySem PySem.Spec PyProof.Rows L2 HT PpSet
open C8 (Cal Met Mak Def cal0 met0 mak0 pe_c pe_mk pe_mt pe_mt0 fnScope fnBody InsC call_isC tCut pss_cut)
section
variable {X : Cx} {tg : Expr}
/-- a walk of a list or of a tuple -/
def iSeq (K : PySem.W.Frag) (tl : TE) : TI := fun σ H R => iList K tl σ H R ∨ iTup K tl σ H R
theorem pi_seq {l : Expr} {tl : TE} (hl : PE X l tl) : PI X tg l (iSeq X.K tl) :=
  ⟨fun pins s σ H R I h => h.elim ((pi_list hl).run pins s σ H R I) ((pi_tup hl).run pins s σ H R I)⟩
end
section
variable {X : Cx}
/-- f() -/
theorem pe_c0 {k j : Nat} {x : Str} {sp : Sp} {dvs : List V} {p pos : Pos} (c : Cal X.prog X.w X.K X.mg X.base k x sp dvs) (hr : Room j X.A) (hk : k ≤ j) (hg : Gl X x)
    (hdb : (x == ("__debug__" : Str)) = false := by decide) : PE X (.Call (.Name x p) [] [] pos) (tCall sp dvs C8.E0 tNil) := by
  obtain ⟨f, fd, ps, ds, F, hm, kp, b, d⟩ := c.ex
  exact pe_call0 F (hr.mono hk) hg hm kp b d C8.pass0 hdb
end
/-- as Cal, with what is needed for a call by keywords -/
structure CalK (P : Program) (w : World) (K : PySem.W.Frag) (mg : Str → Option Value) (base : Heap) (k : Nat) (x : Str) (sp : Sp) (ks : List Str) (g : List Value → List Value) (gV : List V → List V) : Prop where
  ex : ∃ (f : Addr) (fd : FuncData) (ps : List Str), FnOk P w K mg base C8.CX0 k f fd ps sp ∧ mg x = some (.ref f) ∧ PySem.W.keepIn K (.ref f) = true ∧
    (∀ (s : Shared) (ws : List Value), ws.length = ks.length → BindsTo s fd ⟨[], ks.zip ws⟩ (ps.zip (g ws)))
  rel : ∀ {zs : List V} {ws : List Value}, Vals zs ws → Vals (gV zs) (g ws)
  len : ∀ {zs : List V} {H : Hp} {Q : VK} {E : XK}, sp (gV zs) H Q E → zs.length = ks.length
section
variable {X : Cx}
def tCallKw (sp : Sp) (gV : List V → List V) (tk : TA) : TE := fun σ H Q => tk σ H fun zs H2 => sp (gV zs) H2 Q C8.E0
/-- f(k = v, ..) -/
theorem pe_ck {k j : Nat} {x : Str} {sp : Sp} {ks : List Str} {g : List Value → List Value} {gV : List V → List V} {p pos : Pos} {kws : List Keyword} {tk : TA} (c : CalK X.prog X.w X.K X.mg X.base k x sp ks g gV) (hr : Room j X.A) (hk : k ≤ j) (hg : Gl X x)
    (hkw : PK X kws tk) (hall : (backToKw pos (keywordEach kws X.env)).all (·.1.isSome) = true := by rfl) (hks : (backToKw pos (keywordEach kws X.env)).filterMap (·.1) = ks := by rfl)
    (hdb : (x == ("__debug__" : Str)) = false := by decide) (hpl : ((backTo pos (starEach [] X.env)).any (·.1) || (backToKw pos (keywordEach kws X.env)).any (·.1.isNone)) = false := by rfl) :
    PE X (.Call (.Name x p) [] kws pos) (tCallKw sp gV tk) := by
  obtain ⟨f, fd, ps, F, hm, kp, b⟩ := c.ex
  refine ⟨fun pins s σ H Q I h => wpAny_Call_Name_kw (ld_glob I hg hm ?_ hdb)⟩
  refine PySem.W.callWith_KW0 (h₀ := X.base) I.ok.mod.kin kp hall ?_ hpl
  refine thn (hkw.run pos pins s σ H _ I h) fun ws s2 ⟨zs, H2, I2, rz, q2⟩ => ⟨I2.kIn, ?_⟩
  rw [hks]
  have hl : ws.length = ks.length := rz.length.symm.trans (c.len q2)
  refine wpAny_call (codeAny_mono (F.run X.A X.stack s2 H2 ⟨[], ks.zip ws⟩ (g ws) (gV zs) Q C8.E0 (hr.mono hk) I2.env0 (b s2 ws hl) (c.rel rz) q2) fun r s' hq => ?_)
  cases r with
  | error e => exact (C8.pass0 (X := X) (E := C8.E0) pins σ H2 s2 e s' I2 hq)
  | ok fl =>
    cases fl with
    | ret u => exact I2.after hq
    | next => exact False.elim hq
    | brk => exact False.elim hq
    | cont => exact False.elim hq
end
/-! ### enumerate of a tuple -/
def IteT (K : PySem.W.Frag) (a : Addr) : It :=
  ⟨fun i H => ∃ (xs : List V) (x : V), SqT K H a xs ∧ xs[i]? = some x,
   fun i H v H' => ∃ T x, v = .ref T ∧ H T = none ∧ H' = upd H T (.tup [.int (i : Nat), x]) ∧ ∀ xs, SqT K H a xs → xs[i]? = some x,
   fun i H => ∃ xs : List V, SqT K H a xs ∧ xs.length ≤ i⟩
def iEnumT (K : PySem.W.Frag) (ta : TA) : TI := fun σ H R => ta σ H fun vs H1 => ∃ a xs, vs = [.ref a] ∧ SqT K H1 a xs ∧ R (IteT K a) H1
theorem meets_enumT {v : Value} {o : Obj} {H : Heap → Prop} (B : Begins v o H) :
    Meets (Builtin.«enumerate.__new__» ⟨[.type "enumerate", v], []⟩) (fun _ R s => H s.heap ∧
      R (.ok (.ret (.ref (s.heap.push o).objs.size))) { s with heap := (s.heap.push o).push { cls := .type "enumerate", data := .fields #[.none, .bool false, .ref s.heap.objs.size, rawInt 0, .none, .none] } }) :=
  .of_wp fun prog w A R s h => by
    obtain ⟨hp, g, d, tk, os⟩ := s; obtain ⟨h1, h⟩ := h
    have hsub := sub_enumerate
    have qB : ∀ {A' : Around} {E : Value → Shared → Prop} {Q : Value → Shared → Prop}, Q (.ref hp.objs.size) ⟨hp.push o, g, d, tk, os⟩ → wpAny (model prog w) A' (pyIter v) Q E ⟨hp, g, d, tk, os⟩ :=
      fun q => B.iter prog w _ _ ⟨hp, g, d, tk, os⟩ _ h1 q
    wp_walk using qB
    refine wpAny_stack_any fun st => wpAny_pure ?_
    split
    · rename_i c _ _ _ _ _
      cases (c == Value.type "enumerate")
      · wp_walk using qB
        exact ⟨_, rfl, h⟩
      · wp_walk using qB
        exact ⟨_, rfl, h⟩
    · wp_walk using qB
      exact ⟨_, rfl, h⟩
theorem call_enumT {prog : Program} {w : World} {A : Around} {E : Value → Shared → Prop} {s : Shared} {l : Addr} {items : Array Value} {Q : Value → Shared → Prop} (hL : s.heap.IsTuple l items)
    (h : ∀ h', IsEnum h' (s.heap.objs.size + 1) s.heap.objs.size 0 .none → h'.IsTupleIter s.heap.objs.size l 0 → h'.objs.size = s.heap.objs.size + 2 →
      (∀ b o, s.heap.get? b = some o → h'.get? b = some o) → Q (.ref (s.heap.objs.size + 1)) { s with heap := h' }) :
    wpAny (model prog w) A (call (.type "enumerate") [.ref l]) Q E s := by
  refine callType_new F.called_enumerate (by decide) (F.typeCall_enumerate_1 _) (F.newCall_enumerate_1 _) (fun obj => F.args_object_init_2 obj _) F.entry_enumerate_new
    (meets_enumT (begins_tuple l items)) ⟨hL, ?_⟩
  have hz : (s.heap.push { cls := .type "tuple_iterator", data := .fields #[.ref l, .int 0 0] }).objs.size = s.heap.objs.size + 1 := Heap.size_push ..
  show _ ∧ _
  rw [hz]
  have he : IsEnum ((s.heap.push { cls := .type "tuple_iterator", data := .fields #[.ref l, .int 0 0] }).push
      { cls := .type "enumerate", data := .fields #[.none, .bool false, .ref s.heap.objs.size, rawInt 0, .none, .none] }) (s.heap.objs.size + 1) s.heap.objs.size 0 .none := by
    have z := Heap.get?_push_size (s.heap.push { cls := .type "tuple_iterator", data := .fields #[.ref l, .int 0 0] })
      (o := { cls := .type "enumerate", data := .fields #[.none, .bool false, .ref s.heap.objs.size, rawInt 0, .none, .none] }) rfl
    rw [hz] at z; exact z
  exact ⟨⟨_, he, rfl⟩, h _ he ⟨_, Heap.get?_push_of_some _ (Heap.get?_push_size _ rfl), rfl, rfl⟩ (by rw [Heap.size_push, hz]) fun b o x => Heap.get?_push_of_some _ (Heap.get?_push_of_some _ x)⟩
theorem next_enumT_end {prog : Program} {w : World} {A : Around} {E : Value → Shared → Prop} {s : Shared} {e it l : Addr} {i : Nat} {items : Array Value} {old : Value} {Q : Option Value → Shared → Prop} (hh : A.handled = none)
    (he : IsEnum s.heap e it i old) (hit : s.heap.IsTupleIter it l i) (hl : s.heap.IsTuple l items) (hx : items[i]? = none)
    (hQ : ∀ h', Heap.ExtBut it s.heap h' → Q none { s with heap := h' }) : wpAny (model prog w) A (pyNext (.ref e)) Q E s := by
  have hT : s.TypeIs (.ref e) "enumerate" := ⟨_, he, rfl⟩
  unfold pyNext
  refine wpAny_bind (wpAny_attempt (wpAny_callSpecial?_slot (name := Str.ofString "__next__") hT F.slot_enumerate_next
    (wpAny_call_entry F.slot_enumerate_next hT F.entry_enumerate_next ?_ (F.args_enumerate_next_1 _))))
  show wpAny _ _ (field (.ref e) 2 >>= _) _ _ _
  refine wpAny_bind (wpAny_field he rfl (x := .ref it) rfl ?_)
  refine wpAny_bind (wpAny_nextOf_tuple_end (by simp [hh]) hit hl hx fun h' x hx1 hx' => ?_)
  obtain ⟨o, ho, hc⟩ := hx'
  refine wpAny_bind (wpAny_isInstance (T := "StopIteration") (b := true) ⟨o, ho, hc⟩ isSubtype_stop ?_)
  exact wpAny_pure (hQ _ hx1)
theorem turn_enumT {P : Program} {w : World} {K : PySem.W.Frag} {elts : List Expr} {kk : Nat} {tpos : Pos} (a e it : Addr) :
    Turn P w K (.Tuple elts kk tpos) (IteT K a) [e, it] e (fun i h => (∃ old, IsEnum h e it ((i : Nat) : Int) old) ∧ h.IsTupleIter it a i ∧ e ≠ it) where
  mem := by simp
  obj := fun i h st b hb => by
    obtain ⟨⟨old, he⟩, ⟨o, ho, hc, hd⟩, _⟩ := st
    have eb : b = e ∨ b = it := by simpa using hb
    rcases eb with z | z
    · rw [z]; exact ⟨_, he, fun v q => nomatch q⟩
    · rw [z]; exact ⟨o, ho, fun v q => by rw [hd] at q; cases q⟩
  keep := fun i h h' st k => let ⟨⟨old, he⟩, hi, hne⟩ := st; ⟨⟨old, k e (by simp) _ he⟩, hi.at fun o q => k it (by simp) o q, hne⟩
  item := by
    intro X hP hw hK hc i pins s σ H E I hf st hg
    subst hP hw hK
    obtain ⟨⟨old, he⟩, hit, hne⟩ := st
    obtain ⟨xs, x, hq, hx⟩ := hg
    obtain ⟨its, rv, p, hz⟩ := I.tuple hq
    obtain ⟨u, hu, ru⟩ := rv.get hx
    have hel : e < s.heap.objs.size := Heap.lt_size he
    have hil : it < s.heap.objs.size := by obtain ⟨_, q, _⟩ := hit; exact Heap.lt_size q
    have pt : s.heap.IsTuple a its.toArray := p
    have hai : a ≠ it := fun z => by
      obtain ⟨o, ho, hc1, _⟩ := hit
      obtain ⟨o2, ho2, hc2, _⟩ := pt
      rw [z, ho] at ho2
      cases ho2
      rw [hc1] at hc2
      exact absurd hc2 (by decide)
    have hae : e ≠ a := fun z => by
      obtain ⟨o2, ho2, hc2, _⟩ := pt
      rw [← z] at ho2
      have q := he.symm.trans ho2
      cases q
      exact absurd (show Value.type "enumerate" = Value.type "tuple" from hc2) (by decide)
    have hlt : i < its.length := by
      have q := rv.length
      have q2 := (List.getElem?_eq_some_iff.mp hx).1
      omega
    have hd := I.ok.hd hc
    have hh : X.A.in1.handled = none := by simp [hd]
    refine wpAny_pyNext_enum_itemD (Draws.tuple hh it a hai its.toArray) he ⟨hit, pt⟩ (by simpa using hlt) hne (by simp [hne, hae]) fun v h' tk hv ho hst hT hsz hk => ?_
    have hvu : v = u := by
      have q : its[i]? = some v := by simpa using hv
      rw [hu] at q
      cases q; rfl
    subst hvu
    have hit' := hst.1
    refine ⟨_, rfl, wpAny_letOwnedTupleGo_enum (s := { s with heap := h', toks := tk + 1 }) ho fun h'' he' sb => ?_⟩
    have hT2 : h''.get? s.heap.objs.size = some { cls := .type "tuple", data := .seq #[.int i tk, v] } := (sb.2 _ (Nat.ne_of_gt hel)).trans hT
    have new : ObjOk X.prog X.w (upd H s.heap.objs.size (.tup [.int (i : Nat), x])) h'' s.heap.objs.size (.tup [.int (i : Nat), x]) :=
      ⟨by show 2 ≤ sizeLine; decide, [.int i tk, v], .cons ⟨_, rfl⟩ (.cons ru .nil), ⟨_, hT2, rfl, _, rfl⟩⟩
    have I1 : Inv X pins σ (upd H s.heap.objs.size (.tup [.int (i : Nat), x])) { s with heap := h'', toks := tk + 1 } :=
      I.turnedNew (ch := [e, it]) (fun b ob hb q => (sb.2 b (fun z => hb (by simp [z]))).trans (hk b ob (fun z => hb (by simp [z])) (fun z => hb (by simp [z])) q)) hf (Nat.le_refl _) new
    refine ⟨.ref s.heap.objs.size, _, I1, rfl, ⟨_, x, rfl, I.hok.fresh (Nat.le_refl _), rfl, fun ys hy => by rw [I.tuple_inj hy hq]; exact hx⟩, ⟨⟨v, ?_⟩, hit'.at fun o q => (sb.2 it (Ne.symm hne)).trans q, hne⟩, fun b hb => ?_⟩
    · have e1 : ((i + 1 : Nat) : Int) = (i : Int) + 1 := by omega
      rw [e1]; exact he'
    · have hlb : b < s.heap.objs.size := by
        have eb : b = e ∨ b = it := by simpa using hb
        rcases eb with z | z
        · rw [z]; exact hel
        · rw [z]; exact hil
      rw [upd_ne (Nat.ne_of_lt hlb)]
      exact (hf b hb).1
  done := by
    intro X hP hw hK hc i pins s σ H E I hf st hg
    subst hP hw hK
    obtain ⟨⟨old, he⟩, hit, hne⟩ := st
    obtain ⟨xs, hq, hx⟩ := hg
    obtain ⟨its, rv, p, hz⟩ := I.tuple hq
    obtain ⟨f0, f1, f2, f3, f4, f5⟩ := hf it (by simp)
    have pt : s.heap.IsTuple a its.toArray := p
    have hl := rv.length
    exact next_enumT_end (I.ok.hd hc) he hit pt (by simp; omega) fun h' eb => ⟨rfl, I.turned (t' := s.toks) (fun b o hb q => eb b o hb q) f0 f1 f3 f4 f5⟩
  self := fun A i s Q E st h => let ⟨⟨_, he⟩, _⟩ := st; wpAny_pyIter_enum he h
theorem pi_enumT {X : Cx} {e : Expr} {ta : TA} {p pos tpos : Pos} {elts : List Expr} {kk : Nat} (hg : Gl X "enumerate") (hm : X.mg "enumerate" = none) (ha : PA X [e] ta)
    (hs : starEach [e] X.env = [(false, eval e X.env)] := by rfl) : PI X (.Tuple elts kk tpos) (.Call (.Name "enumerate" p) [e] [] pos) (iEnumT X.K ta) := by
  refine ⟨fun pins s σ H R I h => ?_⟩
  refine Call_ (ld_blt I hg hm boot_enumerate (PyProof.Rows.callWith_type1 (thn (ha.run pos pins s σ H _ I h) fun us s1 ⟨vs, H1, I1, r1, q1⟩ => ?_) hs rfl))
  obtain ⟨a, xs, ex, hq, q⟩ := q1
  subst ex
  cases r1 with
  | cons r rr =>
    cases rr
    cases r
    obtain ⟨its, rv, pt, hz⟩ := I1.tuple hq
    refine call_enumT (show s1.heap.IsTuple a its.toArray from pt) fun h' he hit hsz hk => wpAny_pyIter_enum he ?_
    have I2 : Inv X pins σ H1 { s1 with heap := h' } := I1.kept (t' := s1.toks) hk
    refine ⟨s1.heap.objs.size + 1, [s1.heap.objs.size + 1, s1.heap.objs.size], _, _, H1, rfl, I2, turn_enumT a (s1.heap.objs.size + 1) s1.heap.objs.size, ⟨⟨.none, he⟩, hit, Nat.succ_ne_self _⟩, fun b hb => ?_, q⟩
    have eb : b = s1.heap.objs.size + 1 ∨ b = s1.heap.objs.size := by simpa using hb
    have hle : s1.heap.objs.size ≤ b := by
      rcases eb with z | z
      · rw [z]; exact Nat.le_add_right _ _
      · rw [z]; exact Nat.le_refl _
    exact I1.fpOk hle (I1.hok.fresh hle)
/-- .. of a list or a tuple -/
def iEnumQ (K : PySem.W.Frag) (ta : TA) : TI := fun σ H R => iEnum K ta σ H R ∨ iEnumT K ta σ H R
theorem pi_enumQ {X : Cx} {e : Expr} {ta : TA} {p pos tpos : Pos} {elts : List Expr} {kk : Nat} (hg : Gl X "enumerate") (hm : X.mg "enumerate" = none) (ha : PA X [e] ta)
    (hs : starEach [e] X.env = [(false, eval e X.env)] := by rfl) : PI X (.Tuple elts kk tpos) (.Call (.Name "enumerate" p) [e] [] pos) (iEnumQ X.K ta) :=
  ⟨fun pins s σ H R I h => h.elim ((pi_enum hg hm ha hs).run pins s σ H R I) ((pi_enumT hg hm ha hs).run pins s σ H R I)⟩
/-! ### t[::-1] of a tuple -/
def tRevT (K : PySem.W.Frag) (te : TE) : TE := fun σ H Q => te σ H fun x H1 => ∃ a xs, x = .ref a ∧ SqT K H1 a xs ∧ ∀ p, H1 p = none → Q (.ref p) (upd H1 p (.tup xs.reverse))
section
variable {prog : Program} {w : World} {A : Around} {E : Value → Shared → Prop} {s : Shared}
theorem adjust_rev (n : Nat) : Builtin.Slice.sliceAdjust none none (-1) (n : Int) = ((n : Int) - 1, -1) := by
  unfold Builtin.Slice.sliceAdjust
  simp
theorem places_rev (n : Nat) : Builtin.Slice.slicePlaces ((n : Int) - 1) (-1) (-1) = n := by
  unfold Builtin.Slice.slicePlaces
  have h1 : ¬ ((-1 : Int) > 0) := by omega
  simp only [h1, if_false, show (- -1 : Int) = 1 by decide, Int.ediv_one]
  split <;> omega
theorem sliceApplied_rev {sl : Addr} {vs : Value} {n : Nat} {Q : Int × Int × Nat → Shared → Prop} (hs : s.heap.IsSliceOf sl .none .none vs) (ps : IsPart vs (some (-1)))
    (h : Q ((n : Int) - 1, -1, n) s) : wpAny (model prog w) A (Builtin.Slice.sliceApplied (.ref sl) (pure (n : Int))) Q E s := by
  obtain ⟨os, hos, hcs, hds⟩ := id hs
  unfold Builtin.Slice.sliceApplied Builtin.Slice.sliceFields
  refine wpAny_bind (wpAny_bind (wpAny_field hos hds (x := .none) rfl (wpAny_bind (wpAny_field hos hds (x := .none) rfl (wpAny_bind (wpAny_field hos hds (x := vs) rfl (wpAny_pure ?_)))))))
  refine wpAny_bind (slicePart_ ps ?_)
  show wpAny _ _ (if ((-1 : Int) == 0) = true then _ else _) _ _ s
  rw [if_neg (by decide)]
  refine wpAny_bind (slicePart_none (wpAny_bind (slicePart_none (wpAny_bind (wpAny_pure ?_)))))
  show wpAny _ _ (match Builtin.Slice.sliceAdjust none none (-1) (n : Int) with | (lo, hi) => pure (lo, (-1 : Int), Builtin.Slice.slicePlaces lo hi (-1))) _ _ s
  rw [adjust_rev n]
  show wpAny _ _ (pure ((n : Int) - 1, (-1 : Int), Builtin.Slice.slicePlaces ((n : Int) - 1) (-1) (-1))) _ _ s
  rw [places_rev]
  exact wpAny_pure h
theorem pick_rev (xs : Array Value) : ((List.range xs.size).filterMap fun (m : Nat) => xs[((xs.size : Int) - 1 + (m : Int) * -1).toNat]?).toArray = xs.toList.reverse.toArray := by
  congr 1
  have e1 : (List.range xs.size).filterMap (fun (m : Nat) => xs[((xs.size : Int) - 1 + (m : Int) * -1).toNat]?) = ((List.range xs.size).map fun k => xs.size - 1 - k).filterMap (xs[·]?) := by
    rw [List.filterMap_map]
    congr 1
    funext m
    have : ((xs.size : Int) - 1 + (m : Int) * -1).toNat = xs.size - 1 - m := by omega
    rw [this]
    rfl
  rw [e1, PySem.W.krv_range, List.filterMap_reverse, PySem.W.krv_all]
theorem getItem_tuple_rev {t sl : Addr} {items : Array Value} {vs : Value} {Q : Value → Shared → Prop} (ht : IsTup s.heap t items) (hs : s.heap.IsSliceOf sl .none .none vs) (ps : IsPart vs (some (-1)))
    (h : Q (.ref s.heap.objs.size) { s with heap := s.heap.push { cls := .type "tuple", data := .seq items.toList.reverse.toArray } })
    (hsz : items.size ≤ sizeLine) : wpAny (model prog w) A (getItem (.ref t) (.ref sl)) Q E s := by
  have hok : sizeOk (.seq items.toList.reverse.toArray) := by
    show items.toList.reverse.toArray.size ≤ sizeLine
    rw [List.size_toArray, List.length_reverse, Array.length_toList]
    exact hsz
  obtain ⟨os, hos, hcs, hds⟩ := id hs
  have hTs : s.TypeIs (.ref sl) "slice" := ⟨os, hos, hcs⟩
  unfold getItem
  try with_reducible refine wpAny_holding ?_
  first | refine wpAny_bind (wpAny_pure ?_) | skip
  refine wpAny_bind (wpAny_sequenceKey ht.typeIs (by decide) ?_)
  refine wpAny_bind (wpAny_callSpecial?_slot (name := Str.ofString "__getitem__") ht.typeIs PyProof.Rows.slot_tuple_getitem
    (wpAny_call_entry PyProof.Rows.slot_tuple_getitem ht.typeIs entry_tuple_getitem ?_ (args_tuple_getitem _ _)))
  show wpAny _ _ (Builtin.Tuple.tupleItemsOf (.ref t) >>= _) _ _ s
  refine wpAny_bind (tupleItemsOf_ ht ?_)
  refine wpAny_bind (wpAny_typeOf hTs ?_)
  rw [if_pos (by decide)]
  refine wpAny_bind (sliceApplied_rev hs ps ?_)
  show wpAny _ _ (if (((items.size : Int) - 1) == 0 && (-1 : Int) == 1 && items.size == items.size) = true then _ else _) _ _ s
  rw [if_neg (by simp), pick_rev]
  first
    | exact wpAny_bind (m := Builtin.Tuple.tupleExact _) (wpAny_newObj_type (wpAny_pure ⟨_, rfl, wpAny_pure h⟩) hok)
    | exact wpAny_bind (m := Builtin.Tuple.tupleExact _) (wpAny_newObj_type (wpAny_bind (wpAny_pure (wpAny_pure ⟨_, rfl, wpAny_pure h⟩))) hok)
    | exact wpAny_bind (wpAny_bind (m := Builtin.Tuple.tupleExact _) (wpAny_newObj_type (wpAny_pure (wpAny_pure ⟨_, rfl, wpAny_pure h⟩)) hok))
    | exact wpAny_bind (wpAny_bind (m := Builtin.Tuple.tupleExact _) (wpAny_newObj_type (wpAny_pure ⟨_, rfl, wpAny_pure h⟩) hok))
end
theorem pe_revT {X : Cx} {e : Expr} {te : TE} {k : Nat} {p1 p2 p3 pos : Pos} (he : PE X e te) : PE X (.Subscript e (.Slice none none (some (.UnaryOp .USub (.Constant (.int 1) k p1) p2)) p3) pos) (tRevT X.K te) := by
  refine ⟨fun pins s σ H Q I h => ?_⟩
  refine Subscript_ (thn (he.run pins s σ H _ I h) fun v s1 ⟨x, H1, I1, r1, q1⟩ => ?_)
  obtain ⟨a, xs, ex, hx, q⟩ := q1
  subst ex
  cases r1
  have hst : PO X (some (.UnaryOp .USub (.Constant (.int 1) k p1) p2)) (tPart (tUn (rU fun i => .int (-i)) (tC (.int 1)))) := po_some (pe_un un_neg pe_int)
  refine wpAny_Slice (thn (po_none.run pins s1 σ H1 (fun o H2 => o = none ∧ H2 = H1) I1 ⟨rfl, rfl⟩) fun vl s2 ⟨l, H2, I2, pl, el, e2⟩ => ?_)
  subst el e2
  cases pl
  refine thn (po_none.run pins s2 σ H2 (fun o H3 => o = none ∧ H3 = H2) I2 ⟨rfl, rfl⟩) fun vu s3 ⟨u, H3, I3, pu, eu, e3⟩ => ?_
  subst eu e3
  cases pu
  refine thn (hst.run pins s3 σ H3 (fun o H4 => o = some (-1) ∧ H4 = H3) I3 ⟨1, rfl, -1, rfl, rfl, rfl⟩) fun vs s4 ⟨o, H4, I4, ps, eo, e4⟩ => ?_
  subst eo e4
  have I5 : Inv X pins σ H4 { s4 with heap := s4.heap.push { cls := .type "slice", data := .fields #[.none, .none, vs] } } := I4.kept (t' := s4.toks) fun b ob q => Heap.get?_push_of_some _ q
  obtain ⟨its, r, ht, hz⟩ := I5.tuple hx
  have hlen := r.length
  show wpAny (model X.prog X.w) X.A (subscriptTail e (.Slice none none (some (.UnaryOp .USub (.Constant (.int 1) k p1) p2)) p3) (.ref a) (.ref s4.heap.objs.size)) (EP X pins σ Q) X.xe { s4 with heap := s4.heap.push { cls := .type "slice", data := .fields #[.none, .none, vs] } }
  refine tail_any (ops := [.ref a, .ref s4.heap.objs.size]) ht.typeIs (PyProof.Rows.slot_tuple_getitem.lookup) ?_ (by with_unfolding_all rfl)
  refine getItem_tuple_rev ht (Heap.IsSliceOf.new _ .none .none vs) ps ?_ (by rw [List.size_toArray]; omega)
  refine ⟨.ref _, _, I5.laid (t' := s4.toks) (o := .tup xs.reverse) (fun b ob q => Heap.get?_push_of_some _ q) (Nat.le_refl _) ?_, rfl, q _ (I5.hok.fresh (Nat.le_refl _))⟩
  exact ⟨by rw [List.length_reverse]; exact hz, _, r.reverse, IsTup.new _ _⟩
/-! ### set(xs) of a list of ints -/
def rSetL (K : PySem.W.Frag) (w : World) : List V → Hp → VK → Prop := fun vs H Q => ∃ (a : Addr) (ns : List Int), vs = [V.ref a] ∧ SqL K H a (ns.map V.int) ∧ ns.length ≤ 1000 ∧
  ∀ (p : Addr) (n : Nat), H p = none → n ≤ ns.length → Q (.ref p) (upd H p (SetO w p (fun j => decide (j ∈ ns)) n))
section
variable {P : Program} {w : World} {A : Around} {E : Value → Shared → Prop} {s : Shared}
theorem call_set_lstI {l : Addr} {items : Array Value} (ns : List Int) {Q : Value → Shared → Prop} (hh : A.handled = none) (hl : s.heap.IsList l items) (hit : IntsAre items.toList ns) (hb : ns.length + 1 < scanBound)
    (h : ∀ (h' : Heap) (tk c : Nat), SetR w h' s.heap.objs.size (fun j => decide (j ∈ ns)) c → c ≤ ns.length → (∀ b o, s.heap.get? b = some o → h'.get? b = some o) → Q (.ref s.heap.objs.size) { s with heap := h', toks := tk }) :
    wpAny (model P w) A (call (.type "set") [.ref l]) Q E s := by
  have hisz : items.size = ns.length := by
    have q := IntsAre.length hit
    rw [Array.length_toList] at q
    exact q
  obtain ⟨c, tl, hmro⟩ := F.called_set.mro
  have hmade := F.called_set.made
  have hsub := F.called_set.sub
  refine wpAny_call (codeAny_of_tree ?_)
  show wpAny _ _ (callAny (.type "set") _) _ _ _
  refine wpAny_pure ⟨Code.quiet_builtin _ (by decide +kernel), codeAny_builtin F.entry_type_call ?_⟩
  rw [Around.under_plain (weight_type_call_type "set" [.ref l] []) rfl]
  have h1 := F.called_set.notType
  have h2 := F.called_set.canCreate
  have hct := F.typeCall_set_1 (.ref l)
  repeat (any_goals (first | assumption | wp_step))
  refine codeAny_mono (code_set_led1 (.ref l) (E := E) (Q₁ := fun obj s₁ => obj = .ref s.heap.objs.size ∧ s₁ = { s with heap := s.heap.push { cls := .type "set", dict := none, data := .set #[] 0 (.fresh 0 0 (!w.params.followText "set-order")) } }) ⟨rfl, rfl⟩) fun r s₁ hr => ?_
  cases r with
  | error e => exact hr
  | ok fl =>
    cases fl with
    | ret obj =>
      obtain ⟨rfl, rfl⟩ := hr
      have hS : (s.heap.push { cls := .type "set", dict := none, data := .set #[] 0 (.fresh 0 0 (!w.params.followText "set-order")) }).get? s.heap.objs.size = some { cls := .type "set", dict := none, data := .set #[] 0 (.fresh 0 0 (!w.params.followText "set-order")) } := Heap.get?_push_size _ rfl
      have hT : Shared.TypeIs { s with heap := s.heap.push { cls := .type "set", dict := none, data := .set #[] 0 (.fresh 0 0 (!w.params.followText "set-order")) } } (.ref s.heap.objs.size) "set" := ⟨_, hS, rfl⟩
      have hli := F.called_set.init.lookup
      have hbi := F.called_set.init.bind (.ref s.heap.objs.size)
      repeat (any_goals (first | assumption | wp_step))
      refine codeAny_mono (codeAny_call_builtin (R := wants (fun r s₂ => r = .none ∧ ∃ h' tk c, s₂ = { s with heap := h', toks := tk } ∧ SetR w h' s.heap.objs.size (fun j => decide (j ∈ ns)) c ∧ c ≤ ns.length ∧
          (∀ b o, s.heap.get? b = some o → h'.get? b = some o)) E) F.called_set.init.plain F.entry_set_init (check_set_init_1 hT ?_)) fun r₂ s₂ hr₂ => ?_
      · obtain ⟨ol, hol, hcl, nl, hdl⟩ := hl
        obtain ⟨ocls, odict, odata, oslots⟩ := ol
        simp only at hcl hdl
        subst hcl; subst hdl
        have hol' : (s.heap.push { cls := .type "set", dict := none, data := .set #[] 0 (.fresh 0 0 (!w.params.followText "set-order")) }).get? l = some { cls := .type "list", dict := odict, data := .seq items nl, slots := oslots } := Heap.get?_push_of_some _ hol
        have hsls := F.sub_list_set
        have hslf := F.sub_list_frozenset
        have hne : (Value.type "list" == Value.type "dict") = false := by decide
        have hl1 : (s.heap.push { cls := .type "set", dict := none, data := .set #[] 0 (.fresh 0 0 (!w.params.followText "set-order")) }).IsList l items := ⟨_, hol', rfl, nl, rfl⟩
        unfold Builtin.«set.__init__» noKeywords Builtin.Frozenset.updateFrom
        generalize hPI : pyIter = PI
        wp_walk
        subst hPI
        refine wpAny_pyIter_list hl1 ?_
        refine wpAny_bind (wpAny_runValue ?_)
        have hlS : l < s.heap.objs.size := Heap.lt_size hol
        have hh3 : A.in1.in1.in1.handled = none := by simp [hh]
        have hz1 : (s.heap.push { cls := .type "set", dict := none, data := .set #[] 0 (.fresh 0 0 (!w.params.followText "set-order")) }).objs.size = s.heap.objs.size + 1 := Heap.size_push ..
        have hneI : l ≠ (s.heap.push { cls := .type "set", dict := none, data := .set #[] 0 (.fresh 0 0 (!w.params.followText "set-order")) }).objs.size := by
          rw [Heap.size_push]; exact Nat.ne_of_lt (Nat.lt_succ_of_lt hlS)
        have hSf : s.heap.objs.size ∉ [(s.heap.push { cls := .type "set", dict := none, data := .set #[] 0 (.fresh 0 0 (!w.params.followText "set-order")) }).objs.size, l] := by
          rw [Heap.size_push]; simp only [List.mem_cons, List.mem_singleton, List.not_mem_nil, or_false, not_or]
          exact ⟨Nat.ne_of_lt (Nat.lt_succ_self _), Nat.ne_of_gt hlS⟩
        have hval : ∀ (i : Nat) (v : Value), items[i]? = some v → ∃ k t, ns[i]? = some k ∧ v = .int k t := fun i v hv => by
          have hi : i < ns.length := by rw [← hisz]; exact (Array.getElem?_eq_some_iff.mp hv).1
          obtain ⟨t, e⟩ := PyProof.Rows.IntsAre.int_at hit i v (by rw [Array.getElem?_toList]; exact hv)
          refine ⟨ns[i], t, List.getElem?_eq_getElem hi, ?_⟩
          rw [e, List.getD_eq_getElem?_getD, List.getElem?_eq_getElem hi] <;> rfl
        refine set_update_ints ((Walks.list hh3 _ l hneI items).toS) s.heap.objs.size
          hSf ns hisz hb hval (items.size - 0) 0 _ (by omega) (Nat.zero_le _)
          ⟨⟨_, Heap.get?_push_size _ rfl, rfl, rfl⟩, (hl1.push _)⟩ ?hS0 ?hR
        case hS0 =>
          have hget : ((s.heap.push { cls := .type "set", dict := none, data := .set #[] 0 (.fresh 0 0 (!w.params.followText "set-order")) }).push { cls := .type "list_iterator", data := .fields #[.ref l, .int 0 0] }).get? s.heap.objs.size
              = some { cls := .type "set", dict := none, data := .set #[] 0 (.fresh 0 0 (!w.params.followText "set-order")) } := Heap.get?_push_of_some _ hS
          exact ⟨0, Nat.le_refl 0, setR_new_at hget⟩
        case hR =>
          intro s' c' hm hc' hS'
          obtain ⟨h', g2, d', tk', os'⟩ := s'
          have eg : g2 = s.gens := hm.gens
          have ed : d' = s.drawn := hm.drawn
          have eo : os' = s.os := hm.os
          subst eg; subst ed; subst eo
          show wpAny _ _ _ _ _ _
          refine wpAny_pure ?_
          show wpAny _ _ (ret Value.none) _ _ _
          rw [hisz] at hc'
          refine wpAny_pure ⟨rfl, h', tk', c', rfl, hS', hc', fun b o e => ?_⟩
          have hb0 : b < s.heap.objs.size := Heap.lt_size e
          have hb1 : b ≠ s.heap.objs.size := Nat.ne_of_lt hb0
          have hb2 : b ≠ (s.heap.push { cls := .type "set", dict := none, data := .set #[] 0 (.fresh 0 0 (!w.params.followText "set-order")) }).objs.size := by
            rw [Heap.size_push]; exact Nat.ne_of_lt (Nat.lt_succ_of_lt hb0)
          exact hm.heap b o (by simp only [List.mem_cons, List.mem_singleton, List.not_mem_nil, or_false, not_or]; exact ⟨hb1, hb2⟩) (Heap.get?_push_of_some _ (Heap.get?_push_of_some _ e))
      · cases r₂ with
        | error e => exact hr₂
        | ok fl₂ =>
          cases fl₂ with
          | ret r =>
            obtain ⟨rfl, h', tk, c', rfl, hS', hc', hk'⟩ := hr₂
            repeat (any_goals (first | assumption | wp_step))
            exact h _ _ _ hS' hc' hk'
          | _ => exact hr₂.elim
    | _ => exact hr.elim
end
theorem cr_setL {X : Cx} (hc : X.calm = true) : CallR X (.type "set") (rSetL X.K X.w) := by
  intro pins s σ H vs us Q I r h
  obtain ⟨a, ns, rfl, hq, hl, q⟩ := h
  cases r with
  | cons r rr =>
    cases rr
    cases r
    obtain ⟨its, rv, pt, hz⟩ := I.list hq
    have hi : IntsAre its.toArray.toList ns := ints_of_vals rv
    refine call_set_lstI ns (I.ok.hd hc) pt.isList hi (by unfold scanBound; omega) fun h' tk c R1 hcn k => ?_
    exact ⟨.ref _, _, I.laid (t' := tk) k (Nat.le_refl _) (setO_new R1), rfl, q _ c (I.hok.fresh (Nat.le_refl _)) hcn⟩
/-! ### {elt for target in iter if ..}, elt an int -/
def tSci (w : World) (wi : TI) (g : TG) (tt : TT) (te : TE) (vs : List Nat) : TE := fun σ H Q => wi σ H fun J H1 => ∀ D, H1 D = none →
  ∃ W : Nat → Nat → Hp → Prop, (∃ m, W 0 m (upd H1 D (SetO w D (fun _ => false) 0))) ∧ ∀ i m H, W i m H →
    (J.stop i H ∧ Q (.ref D) H) ∨ (J.go i H ∧ ∃ Nx : Hp → Prop, (∀ H', Nx H' → ∃ m', m' < m ∧ W (i + 1) m' H') ∧
      ∀ x H', J.yld i H x H' → g x (wipe σ vs) H' fun σ2 H2 => wipe σ2 vs = wipe σ vs ∧ tt σ2 H2 fun b H3 =>
        if b = true then te σ2 H3 fun y H4 => ∃ (c : Int) (S : Int → Bool) (n : Nat), y = .int c ∧ H4 D = some (SetO w D S n) ∧ n + 1 < scanBound ∧
          Nx (upd H4 D (SetO w D (fun j => S j || decide (j = c)) (if S c = true then n else n + 1)))
        else Nx H3)
section
variable {X : Cx}
theorem addO_ok {pins : List (Addr × Obj)} {σ : L2.St} {H : Hp} {s : Shared} {E : Value → Shared → Prop} {D : Addr} {S : Int → Bool} {n : Nat} {y : Int} {t : Tok} {Q : Value → Shared → Prop} (I : Inv X pins σ H s) (hD : H D = some (SetO X.w D S n)) (room : n + 1 < scanBound)
    (h : ∀ s', Inv X pins σ (upd H D (SetO X.w D (fun j => S j || decide (j = y)) (if S y = true then n else n + 1))) s' → Q .none s') : wpAny (model X.prog X.w) X.A (call (.builtin "set.add") [.ref D, .int y t]) Q E s := by
  refine setR_add (setO_get I hD) room fun h' sb new => ?_
  have he : ∃ u, h'.get? D = some u := by
    have ⟨o, _, _, _, ho, _⟩ := new
    exact ⟨o, ho⟩
  exact h _ (I.write (e := D) (t' := s.toks + 1) (by rw [hD]; trivial) (.inl rfl) (fun b u hb hu => (sb.2 b hb).trans hu) he (setO_new new))
theorem sci_core {pins : List (Addr × Obj)} {s : Shared} {σ : L2.St} {H : Hp} {Q : VK} {elt tg iter : Expr} {ifs : List Expr} {scope : Scope} {own : List (PySem.Str × Nat)} {pos pos' : Pos} {wi : TI} {g : TG} {tt : TT} {te : TE} {use : Option (Value → Sem Unit)} {Qf : Value → Shared → Prop}
    (hc : X.calm = true) (hN : X.N.Nodup) (I : Inv X pins σ H s) (hi : PI X tg iter wi) (ok : BlkOk X.N X.env.scope scope own)
    (hg : ∀ (s : Shared) (H : Hp) (C : Addr) (cl : List (PySem.Str × Addr)) (fp : List Addr), PG (X.blk s H scope (compEnvC scope cl C X.env) fp) tg g) (ht : ∀ (s : Shared) (H : Hp) (C : Addr) (cl : List (PySem.Str × Addr)) (fp : List Addr), PTs (X.blk s H scope (compEnvC scope cl C X.env) fp) ifs tt)
    (he : ∀ (s : Shared) (H : Hp) (C : Addr) (cl : List (PySem.Str × Addr)) (fp : List Addr), PE (X.blk s H scope (compEnvC scope cl C X.env) fp) elt te) (hs : ∀ x, foldedSetIterable iter X.env x = pure x)
    (h : tSci X.w wi g tt te (own.map (·.2)) σ H Q)
    (hRR : ∀ D C s' m H', Inv X pins σ H' s' → Q (.ref D) H' → s'.heap.Ns C m → FpOk X pins H' C → compPost (model X.prog X.w) X.A X.xe use Qf (.ref D) C (.ok .next) s') :
    wpAny (model X.prog X.w) X.A (comprehension (.SetComp elt [⟨tg, iter, ifs, 0⟩] scope pos) scope X.env pos' (newSet (.type "set")) false (eval iter X.env) use) Qf X.xe s := by
  have hfree : ∀ y ∈ scope.names, y.2 = .free → ∃ c, X.env.cells.lookup y.1 = some c := fun y hy e => by
    rcases ok.free y hy e with k | k
    · exact I.ok.has _ (.inl k)
    · exact I.ok.has _ (.inr k)
  refine wpAny_comprehension_free (use := use) rfl hs (closure_ok hfree) ok.kind (fun y hy e => by rw [ok.uniq y hy, e])
    (thn (hi.run pins s σ H _ I h) fun xv s1 hx => thn hx fun itv s2 h2 => ?_)
  obtain ⟨it, fp, tn, J, H2, e, I2, T, st2, f2, q⟩ := h2
  subst e
  refine newSet_ok (newEnv_comp ?_)
  generalize hD : s2.heap.objs.size = D
  have hDn : H2 D = none := I2.hok.fresh (Nat.le_of_eq hD)
  obtain ⟨W, ⟨m0, w0⟩, turn⟩ := q D hDn
  -- the new list
  generalize hs3 : ({ s2 with heap := s2.heap.push { cls := .type "set", dict := none, data := .set #[] 0 (.fresh 0 0 (!X.w.params.followText "set-order")) } } : Shared) = s3
  have I3 : Inv X pins σ (upd H2 D (SetO X.w D (fun _ => false) 0)) s3 := by
    rw [← hs3]
    refine I2.laid (t' := s2.toks) (fun b o e => Heap.get?_push_of_some _ e) (Nat.le_of_eq hD) ?_
    rw [← hD]
    exact setO_new (setR_fresh X.w)
  have h3 : s3.heap = s2.heap.push { cls := .type "set", dict := none, data := .set #[] 0 (.fresh 0 0 (!X.w.params.followText "set-order")) } := by rw [← hs3]
  have sz : ∀ b ∈ fp, b < s2.heap.objs.size := fun b hb => by
    obtain ⟨o, e, _⟩ := T.obj _ _ st2 b hb
    exact Heap.lt_size e
  have f3 : ∀ b ∈ fp, FpOk X pins (upd H2 D (SetO X.w D (fun _ => false) 0)) b ∧ b < s3.heap.objs.size := fun b hb => by
    have hlt := sz b hb
    refine ⟨⟨?_, (f2 b hb).2⟩, by rw [h3, Heap.size_push]; exact Nat.lt_succ_of_lt hlt⟩
    rw [upd_ne (by rw [← hD]; exact Nat.ne_of_lt hlt)]
    exact (f2 b hb).1
  have st3 : tn 0 s3.heap := T.keep _ _ _ st2 fun b _ o e => by rw [h3]; exact Heap.get?_push_of_some _ e
  have I4 := block_start I3 ok hN f3
  have pg := hg s3 (upd H2 D (SetO X.w D (fun _ => false) 0)) s3.heap.objs.size (cellsFrom (s3.heap.objs.size + 1) scope.names (cloFrom X.env.cells scope.names [])) fp
  have pt := ht s3 (upd H2 D (SetO X.w D (fun _ => false) 0)) s3.heap.objs.size (cellsFrom (s3.heap.objs.size + 1) scope.names (cloFrom X.env.cells scope.names [])) fp
  have pe := he s3 (upd H2 D (SetO X.w D (fun _ => false) 0)) s3.heap.objs.size (cellsFrom (s3.heap.objs.size + 1) scope.names (cloFrom X.env.cells scope.names [])) fp
  show codeAny _ _ (.compStart (.SetComp elt [⟨tg, iter, ifs, 0⟩] scope pos) 0 (.ref it) (.ref D) (compEnvC scope (cellsFrom (s3.heap.objs.size + 1) scope.names (cloFrom X.env.cells scope.names [])) s3.heap.objs.size X.env)) (compPost (model X.prog X.w) X.A X.xe use Qf (.ref D) s3.heap.objs.size) { s3 with heap := pushCells (s3.heap.push { cls := .type "dict", data := .dict #[] }) scope.names }
  have nfp : ∀ b ∈ fp, (upd H2 D (SetO X.w D (fun _ => false) 0)) b = none := fun b hb => (f3 b hb).1.1
  generalize hce : compEnvC scope (cellsFrom (s3.heap.objs.size + 1) scope.names (cloFrom X.env.cells scope.names [])) s3.heap.objs.size X.env = ce at I4 pg pt pe ⊢
  have cL : ce.locals = s3.heap.objs.size := by subst hce; rfl
  generalize hH3 : upd H2 D (SetO X.w D (fun _ => false) 0) = H3 at I3 I4 pg pt pe w0 nfp f3
  generalize hs4 : ({ s3 with heap := pushCells (s3.heap.push { cls := .type "dict", data := .dict #[] }) scope.names } : Shared) = s4 at I4 ⊢
  have st4 : tn 0 s4.heap := T.keep _ _ _ st3 fun b _ o e => by rw [← hs4]; exact pushCells_keeps _ _ _ _ (Heap.get?_push_of_some _ e)
  have stat : ∀ {σ' : L2.St} {H' : Hp} {s' : Shared}, Inv (X.blk s3 H3 scope ce fp) [] σ' H' s' → (∀ b ∈ fp, H' b = none) → ∀ b ∈ fp, FpOk (X.blk s3 H3 scope ce fp) [] H' b := fun {σ' H' s'} I' hn b hb =>
    ⟨hn b hb, (I'.ok.exf b hb).1, I'.ok.exfs b hb, .inl hb, fun x c e => (I'.ok.exf b hb).2 x c e, fun p hp => absurd (show p ∈ ([] : List (Addr × Obj)) ++ [] from hp) (by simp)⟩
  have loop : codeAny (model X.prog X.w) X.A (.compLoop (.SetComp elt [⟨tg, iter, ifs, 0⟩] scope pos) 0 (.ref it) (.ref D) ce) (compPost (model X.prog X.w) X.A X.xe use Qf (.ref D) s3.heap.objs.size) s4 := by
    refine compLoopS_any (fun n s' => ∃ i H', Inv (X.blk s3 H3 scope ce fp) [] (wipe σ (own.map (·.2))) H' s' ∧ tn i s'.heap ∧ (∀ b ∈ fp, H' b = none) ∧ W i n H') ?_ m0 ⟨0, H3, I4, st4, nfp, w0⟩
    rintro n s5 ⟨i, H5, I5, st5, n5, w5⟩
    rcases turn i n H5 w5 with ⟨stop, qq⟩ | ⟨go, Nx, hNx, step⟩
    · have td := T.done (X.blk s3 H3 scope ce fp) rfl rfl rfl hc i [] s5 _ H5 (fun _ _ => False) I5 (stat I5 n5) st5 stop
      refine thnF td fun r s6 ⟨hr, I6⟩ => ?_
      subst hr
      -- back in the def's context
      have I7 : Inv X pins σ H5 s6 := I3.call' (ch := fp) I6.os I6.base I6.hok I6.bare fun b hb => ⟨(f3 b hb).1.2.2.2.1, (f3 b hb).1.2.1, (f3 b hb).1.2.2.2.2.1, (f3 b hb).1.2.2.2.2.2⟩
      have nC : H5 s3.heap.objs.size = none := by
        have z : H5 ce.locals = none := I6.free
        rw [cL] at z
        exact z
      obtain ⟨m, hn, _⟩ := I6.loc
      have hn : s6.heap.Ns ce.locals m := hn
      rw [cL] at hn
      exact hRR D s3.heap.objs.size s6 m H5 I7 qq hn (I3.fpOk (Nat.le_refl _) nC)
    · have ti := T.item (X.blk s3 H3 scope ce fp) rfl rfl rfl hc i [] s5 _ H5 (fun _ _ => False) I5 (stat I5 n5) st5 go
      refine thnF ti fun r s6 ⟨u, hr, h6⟩ => ?_
      subst hr
      refine thnF h6 fun _ s7 ⟨x, H7, I7, r7, y7, st7, n7⟩ => ?_
      have I7' := I7.pinned (stat I7 n7) (T.obj _ _ st7)
      refine thnF (pg.run _ s7 _ H7 x u _ I7' r7 (step x H7 y7)) fun _ s8 ⟨σ8, H8, I8, hw8, q8⟩ => ?_
      refine thnF (pt.run _ s8 σ8 H8 _ I8 q8) fun b s9 ⟨H9, I9, q9⟩ => ?_
      -- the turn's end
      have fin : ∀ {s' : Shared} {H' : Hp}, Inv (X.blk s3 H3 scope ce fp) ([] ++ pinsAt fp s7.heap) σ8 H' s' → Nx H' → ∃ m, m < n ∧ ∃ i H', Inv (X.blk s3 H3 scope ce fp) [] (wipe σ (own.map (·.2))) H' s' ∧ tn i s'.heap ∧ (∀ b ∈ fp, H' b = none) ∧ W i m H' := fun {s' H'} I' nx => by
        obtain ⟨m', hm, w'⟩ := hNx H' nx
        have pin' : ∀ b ∈ fp, ∀ o, s7.heap.get? b = some o → s'.heap.get? b = some o ∧ H' b = none := fun b hb o e =>
          let z := I'.pin (b, o) (List.mem_append_right _ (List.mem_append_right _ (mem_pinsAt hb e)))
          ⟨z.1, z.2.1⟩
        have hl : (wipe σ (own.map (·.2))).length = σ8.length := by rw [← hw8, wipe_length]
        refine ⟨m', hm, i + 1, H', (I'.unpinned (pins := [])).weak hl (fun j v e => ?_), T.keep _ _ _ st7 fun b hb o e => (pin' b hb o e).1, fun b hb => ?_, w'⟩
        · rw [← hw8] at e
          exact (wipe_some e).1
        · obtain ⟨o, e, _⟩ := T.obj _ _ st7 b hb
          exact (pin' b hb o e).2
      cases b with
      | false =>
        simp only [Bool.false_eq_true, if_false] at q9 ⊢
        exact fin I9 q9
      | true =>
        simp only [if_true] at q9 ⊢
        refine thnF (pe.run _ s9 σ8 H9 _ I9 q9) fun z s10 ⟨yv, H10, I10, r10, cb, S0, n0, ey, hD10, hz10, nx⟩ => ?_
        subst ey
        obtain ⟨tz, ez⟩ := (show ∃ t, z = Value.int cb t from r10)
        subst ez
        exact addO_ok (X := X.blk s3 H3 scope ce fp) I10 hD10 hz10 fun s11 I11 => fin I11 nx
  exact codeAny_compStart_set loop (T.self X.A 0 _ _ _ st4 loop)
theorem pe_sci {elt tg iter : Expr} {ifs : List Expr} {scope : Scope} {own : List (PySem.Str × Nat)} {pos : Pos} {wi : TI} {g : TG} {tt : TT} {te : TE}
    (hc : X.calm = true) (hN : X.N.Nodup) (hi : PI X tg iter wi) (ok : BlkOk X.N X.env.scope scope own)
    (hg : ∀ (s : Shared) (H : Hp) (C : Addr) (cl : List (PySem.Str × Addr)) (fp : List Addr), PG (X.blk s H scope (compEnvC scope cl C X.env) fp) tg g)
    (ht : ∀ (s : Shared) (H : Hp) (C : Addr) (cl : List (PySem.Str × Addr)) (fp : List Addr), PTs (X.blk s H scope (compEnvC scope cl C X.env) fp) ifs tt)
    (he : ∀ (s : Shared) (H : Hp) (C : Addr) (cl : List (PySem.Str × Addr)) (fp : List Addr), PE (X.blk s H scope (compEnvC scope cl C X.env) fp) elt te)
    (hs : ∀ x, foldedSetIterable iter X.env x = pure x := by intro _; rfl) :
    PE X (.SetComp elt [⟨tg, iter, ifs, 0⟩] scope pos) (tSci X.w wi g tt te (own.map (·.2))) := by
  refine ⟨fun pins s σ H Q I h => ?_⟩
  rw [eval_SetComp]
  refine sci_core hc hN I hi ok hg ht he hs h fun D C s' m H' I' q hn f => ⟨m, hn, fun h'' sb => ?_⟩
  obtain ⟨f0, f1, f2, f3, f4, f5⟩ := f
  exact ⟨.ref D, H', I'.turned (t' := s'.toks) (fun b o hb e => (sb.2 b hb).trans e) f0 f1 f3 f4 f5, rfl, q⟩
end
/-! ### operators on numbers that are not negative -/
section
variable {X : Cx}
theorem OpR.imp {f : Value → Value → Sem Value} {r r' : R2} (h : OpR X f r) (k : ∀ x y H Q, r' x y H Q → r x y H Q) : OpR X f r' :=
  fun pins s σ H x y v u Q I rx ry z => h pins s σ H x y v u Q I rx ry (k x y H Q z)
def rN (g : Nat → Nat → V) : R2 := fun x y H Q => ∃ n m : Nat, x = .int (n : Int) ∧ y = .int (m : Int) ∧ Q (g n m) H
def rNc (C : Nat → Nat → Prop) (g : Nat → Nat → V) : R2 := fun x y H Q => ∃ n m : Nat, x = .int (n : Int) ∧ y = .int (m : Int) ∧ C n m ∧ Q (g n m) H
theorem opN {f : Value → Value → Sem Value} {g : Int → Int → V} {g' : Nat → Nat → V} (h : OpR X f (rI0 g)) (e : ∀ n m : Nat, g n m = g' n m) : OpR X f (rN g') :=
  OpR.imp h fun x y H Q z => by
    obtain ⟨n, m, e1, e2, q⟩ := z
    exact ⟨n, m, e1, e2, by rw [e]; exact q⟩
theorem opNc {f : Value → Value → Sem Value} {C : Int → Int → Prop} {g : Int → Int → V} {C' : Nat → Nat → Prop} {g' : Nat → Nat → V} (h : OpR X f (rI C g)) (c : ∀ n m : Nat, C' n m → C n m) (e : ∀ n m : Nat, C' n m → g n m = g' n m) : OpR X f (rNc C' g') :=
  OpR.imp h fun x y H Q z => by
    obtain ⟨n, m, e1, e2, k, q⟩ := z
    exact ⟨n, m, e1, e2, c n m k, by rw [e n m k]; exact q⟩
theorem dec_eq {p q : Prop} [Decidable p] [Decidable q] (h : p ↔ q) : decide p = decide q := decide_eq_decide.mpr h
theorem on_add : OpR X (binaryOp .Add) (rN fun n m => .int ((n + m : Nat) : Int)) := opN op_add fun n m => rfl
theorem on_sub : OpR X (binaryOp .Sub) (rNc (fun n m => m ≤ n) fun n m => .int ((n - m : Nat) : Int)) :=
  OpR.imp op_sub fun x y H Q z => by
    obtain ⟨n, m, e1, e2, k, q⟩ := z
    exact ⟨n, m, e1, e2, by show Q (V.int ((n : Int) - (m : Int))) H; rw [← Int.ofNat_sub k]; exact q⟩
theorem on_mul : OpR X (binaryOp .Mult) (rNc (fun n m => n ≤ 4294967296 ∨ m ≤ 4294967296) fun n m => .int ((n * m : Nat) : Int)) :=
  opNc op_mul (fun n m k => by
    rcases k with k | k
    · exact .inl ⟨by omega, by omega⟩
    · exact .inr ⟨by omega, by omega⟩) fun n m _ => rfl
theorem on_fdiv : OpR X (binaryOp .FloorDiv) (rNc (fun _ m => 0 < m ∧ m < 1073741824) fun n m => .int ((n / m : Nat) : Int)) :=
  opNc op_fdivN (fun n m k => ⟨by omega, by omega⟩) fun n m k => by rw [Int.fdiv_eq_ediv_of_nonneg _ (by omega)]; rfl
theorem on_mod : OpR X (binaryOp .Mod) (rNc (fun _ m => 0 < m) fun n m => .int ((n % m : Nat) : Int)) :=
  opNc op_modN (fun n m k => by omega) fun n m k => by rw [Int.fmod_eq_emod_of_nonneg _ (by omega)]; rfl
theorem on_lt : OpR X (compareOp .Lt) (rN fun n m => .bl (decide (n < m))) := opN op_lt fun n m => congrArg V.bl (dec_eq Int.ofNat_lt)
theorem on_le : OpR X (compareOp .LtE) (rN fun n m => .bl (decide (n ≤ m))) := opN op_le fun n m => congrArg V.bl (dec_eq Int.ofNat_le)
theorem on_gt : OpR X (compareOp .Gt) (rN fun n m => .bl (decide (m < n))) := opN op_gt fun n m => congrArg V.bl (dec_eq Int.ofNat_lt)
theorem on_ge : OpR X (compareOp .GtE) (rN fun n m => .bl (decide (m ≤ n))) := opN op_ge fun n m => congrArg V.bl (dec_eq Int.ofNat_le)
theorem vi_inj {n m : Nat} : (V.int (n : Int) = V.int (m : Int)) ↔ n = m := ⟨fun e => by injection e with e; omega, fun e => by rw [e]⟩
theorem on_eq : OpR X (compareOp .Eq) (rN fun n m => .bl (decide (n = m))) :=
  OpR.imp op_eq fun x y H Q z => by
    obtain ⟨n, m, rfl, rfl, q⟩ := z
    exact ⟨rfl, by rw [dec_eq vi_inj]; exact q⟩
theorem on_ne : OpR X (compareOp .NotEq) (rN fun n m => .bl (!decide (n = m))) :=
  OpR.imp op_ne fun x y H Q z => by
    obtain ⟨n, m, rfl, rfl, q⟩ := z
    exact ⟨rfl, by rw [dec_eq vi_inj]; exact q⟩
end
theorem CallR.imp {X : Cx} {f : Value} {r r' : List V → Hp → VK → Prop} (h : CallR X f r) (k : ∀ xs H Q, r' xs H Q → r xs H Q) : CallR X f r' :=
  fun pins s σ H xs us Q I rr z => h pins s σ H xs us Q I rr (k xs H Q z)
theorem cn_max2 {X : Cx} (hc : X.calm = true) : CallR X (.builtin "max") (fun xs H Q => ∃ n m : Nat, xs = [.int (n : Int), .int (m : Int)] ∧ Q (.int (max n m : Nat)) H) :=
  CallR.imp (call_max2 hc) fun xs H Q z => by
    obtain ⟨n, m, e, q⟩ := z
    refine ⟨n, m, e, ?_⟩
    have : (if (m : Int) > (n : Int) then (m : Int) else (n : Int)) = ((max n m : Nat) : Int) := by
      split <;> omega
    rw [this]
    exact q
theorem cn_min2 {X : Cx} (hc : X.calm = true) : CallR X (.builtin "min") (fun xs H Q => ∃ n m : Nat, xs = [.int (n : Int), .int (m : Int)] ∧ Q (.int (min n m : Nat)) H) :=
  CallR.imp (call_min2 hc) fun xs H Q z => by
    obtain ⟨n, m, e, q⟩ := z
    refine ⟨n, m, e, ?_⟩
    have : (if (m : Int) < (n : Int) then (m : Int) else (n : Int)) = ((min n m : Nat) : Int) := by
      split <;> omega
    rw [this]
    exact q
/-- a loop over range(n) -/
theorem for_rng {n : Nat} {g : TG} {tb : TS} {D : Ends} {σ : L2.St} {H : Hp} (Pv : Nat → L2.St → Hp → Prop) (h0 : Pv 0 σ H)
    (hs : ∀ (i : Nat) σ H, i < n → Pv i σ H → g (.int (i : Int)) σ H fun σ2 H2 => tb { D with nx := Pv (i + 1), ct := Pv (i + 1), bk := D.nx } σ2 H2) (hd : ∀ σ H, Pv n σ H → D.nx σ H) :
    ∃ W : Nat → Nat → L2.St → Hp → Prop, (∃ m, W 0 m σ H) ∧ ∀ i m σ H, W i m σ H →
      ((Itr 0 n).stop i H ∧ D.nx σ H) ∨ ((Itr 0 n).go i H ∧ ∃ N : L2.St → Hp → Prop, (∀ σ' H', N σ' H' → ∃ m', m' < m ∧ W (i + 1) m' σ' H') ∧
        ∀ x H', (Itr 0 n).yld i H x H' → g x σ H' fun σ2 H2 => tb { D with nx := N, ct := N, bk := D.nx } σ2 H2) :=
  for_range (lo := 0) Pv h0 (fun i σ H hi p => by rw [Int.zero_add]; exact hs i σ H hi p) hd
theorem lc_rng {n : Nat} {g : TG} {tt : TT} {te : TE} {vs : List Nat} {σ : L2.St} {H1 : Hp} {D : Addr} {Qd : Hp → Prop} (Pv : Nat → Hp → Prop) (h0 : Pv 0 (upd H1 D (.lst [])))
    (hs : ∀ (i : Nat) H, i < n → Pv i H → g (.int (i : Int)) (wipe σ vs) H fun σ2 H2 => wipe σ2 vs = wipe σ vs ∧ tt σ2 H2 fun b H3 =>
      if b = true then te σ2 H3 fun y H4 => ∃ acc, H4 D = some (.lst acc) ∧ acc.length < sizeLine ∧ Pv (i + 1) (upd H4 D (.lst (acc ++ [y]))) else Pv (i + 1) H3) (hd : ∀ H, Pv n H → Qd H) :
    ∃ W : Nat → Nat → Hp → Prop, (∃ m, W 0 m (upd H1 D (.lst []))) ∧ ∀ i m H, W i m H →
      ((Itr 0 n).stop i H ∧ Qd H) ∨ ((Itr 0 n).go i H ∧ ∃ Nx : Hp → Prop, (∀ H', Nx H' → ∃ m', m' < m ∧ W (i + 1) m' H') ∧ ∀ x H', (Itr 0 n).yld i H x H' →
        g x (wipe σ vs) H' fun σ2 H2 => wipe σ2 vs = wipe σ vs ∧ tt σ2 H2 fun b H3 =>
          if b = true then te σ2 H3 fun y H4 => ∃ acc, H4 D = some (.lst acc) ∧ acc.length < sizeLine ∧ Nx (upd H4 D (.lst (acc ++ [y]))) else Nx H3) :=
  lc_range (lo := 0) Pv h0 (fun i H hi p => by rw [Int.zero_add]; exact hs i H hi p) hd
/-! ### rules that name the written part K: for blocks of comprehensions -/
section
variable (K : PySem.W.Frag) {X : Cx} (h : X.K = K := by rfl)
include h
theorem ix_tupK : IxR X (rIxT K) := by subst h; exact ix_tup
theorem ix_listK : IxR X (rIxL K) := by subst h; exact ix_list
theorem ix_seqK : IxR X (rIx K) := by subst h; exact ix_seq
theorem sl_listK : SlR X (rSlL K) := by subst h; exact sl_list
theorem sl_tupK : SlR X (rSlA K) := by subst h; exact sl_tupA
theorem op_inK : OpR X (compareOp .In) (rIn K false) := by subst h; exact op_in_seq
theorem op_notInK : OpR X (compareOp .NotIn) (rIn K true) := by subst h; exact op_notIn_seq
theorem op_eqK (hu : X.A.units + 64 < cLine) : OpR X (compareOp .Eq) (rEqD K) := by subst h; exact op_eqD hu
theorem op_neK (hu : X.A.units + 64 < cLine) : OpR X (compareOp .NotEq) (rNeD K) := by subst h; exact op_neD hu
def rLen (K : PySem.W.Frag) : List V → Hp → VK → Prop := fun xs H Q => ∃ p ys, xs = [.ref p] ∧ (SqL K H p ys ∨ SqT K H p ys) ∧ Q (.int ys.length) H
theorem call_lenK : CallR X (.builtin "len") (rLen K) := by subst h; exact call_len_seq
theorem cr_allK (hc : X.calm = true) : CallR X (.builtin "all") (rAll K) := by subst h; exact cr_all hc
theorem call_isiK1 : CallR X (.builtin "isinstance") (rIsi K) := by subst h; exact call_isi
theorem call_isiTK : CallR X (.builtin "isinstance") (rIsiT K) := by subst h; exact call_isiT
def rTupOf (K : PySem.W.Frag) : List V → Hp → VK → Prop := fun xs H Q => ∃ p ys, xs = [.ref p] ∧ ((SqL K H p ys ∧ ∀ l, H l = none → Q (.ref l) (upd H l (.tup ys))) ∨ (SqT K H p ys ∧ Q (.ref p) H))
theorem call_tupK : CallR X (.type "tuple") (rTupOf K) := by subst h; exact call_tuple_of
def rLstOf (K : PySem.W.Frag) : List V → Hp → VK → Prop := fun xs H Q => ∃ p ys, xs = [.ref p] ∧ (SqL K H p ys ∨ SqT K H p ys) ∧ ∀ l, H l = none → Q (.ref l) (upd H l (.lst ys))
theorem call_lstK : CallR X (.type "list") (rLstOf K) := by subst h; exact call_list_of
theorem cr_minK (hc : X.calm = true) : CallR X (.builtin "min") (rMin K) := by subst h; exact cr_min hc
theorem cr_sumK (hc : X.calm = true) : CallR X (.builtin "sum") (rSum K) := by subst h; exact cr_sum hc
theorem cr_sortedK : CallR X (.builtin "sorted") (rSortedI K) := by subst h; exact cr_sortedI
theorem pe_fldK {e : Expr} {f : Str} {pos : Pos} {ta : TE} (he : PE X e ta) (hb : attributeBase e f X.env (eval e X.env) = eval e X.env) : PE X (.Attribute e f pos) (tFld K ta f) := by subst h; exact pe_fld he hb
theorem pi_listK {tg l : Expr} {tl : TE} (hl : PE X l tl) : PI X tg l (iList K tl) := by subst h; exact pi_list hl
theorem pi_tupK {tg l : Expr} {tl : TE} (hl : PE X l tl) : PI X tg l (iTup K tl) := by subst h; exact pi_tup hl
theorem pg_tupK {es : List Expr} {k : Nat} {t : TGs} (n : Nat) {pos : Pos} (hc : X.calm = true) (hg : PGs X es t) (hn : (assignEach es X.env).length = n := by rfl) (hst : (assignEach es X.env).findIdx? (·.1) = none := by rfl) :
    PG X (.Tuple es k pos) (gTup K n t) := by subst h; exact pg_tup hc hg hn hst
theorem pi_seqK {tg l : Expr} {tl : TE} (hl : PE X l tl) : PI X tg l (iSeq K tl) := by subst h; exact pi_seq hl
end
/-! ### the built-in names that the text uses -/
structure Zb (mg : Str → Option Value) : Prop where
  len : mg "len" = none
  isinstance : mg "isinstance" = none
  int_ : mg "int" = none
  bool : mg "bool" = none
  list_ : mg "list" = none
  tuple_ : mg "tuple" = none
  range : mg "range" = none
  all : mg "all" = none
  enumerate : mg "enumerate" = none
  zip : mg "zip" = none
  sorted : mg "sorted" = none
  set : mg "set" = none
  min_ : mg "min" = none
  max_ : mg "max" = none
  sum_ : mg "sum" = none
  abs : mg "abs" = none
end Bf
/-! The mathematics. -/
namespace Bf
/-! ### changes -/
/-- where a change leads a state -/
def ap (f : List Nat) (s : Nat) : Nat := f.getD s 0
/-- a change done n times -/
def it (f : List Nat) : Nat → Nat → Nat
  | 0, s => s
  | n + 1, s => it f n (ap f s)
def pw (f : List Nat) (n : Nat) : List Nat := (List.range f.length).map (it f n)
/-- first f, then g -/
def cmp (f g : List Nat) : List Nat := f.map (ap g)
def Chg (f : List Nat) : Prop := ∀ x ∈ f, x < f.length
theorem ap_lt {f : List Nat} (h : Chg f) {s : Nat} (hs : s < f.length) : ap f s < f.length := by
  unfold ap
  rw [List.getD_eq_getElem?_getD, List.getElem?_eq_getElem hs]
  exact h _ (List.getElem_mem hs)
theorem ap_get {f : List Nat} {s : Nat} (hs : s < f.length) : f[s]? = some (ap f s) := by
  unfold ap
  rw [List.getD_eq_getElem?_getD, List.getElem?_eq_getElem hs]
  rfl
theorem it_add (f : List Nat) : ∀ (a b s : Nat), it f (a + b) s = it f b (it f a s)
  | 0, b, s => by rw [Nat.zero_add]; rfl
  | a + 1, b, s => by
    rw [Nat.add_right_comm]
    show it f (a + b) (ap f s) = it f b (it f a (ap f s))
    exact it_add f a b _
theorem it_succ (f : List Nat) (n s : Nat) : it f (n + 1) s = ap f (it f n s) := it_add f n 1 s
theorem it_lt {f : List Nat} (h : Chg f) : ∀ (n : Nat) {s : Nat}, s < f.length → it f n s < f.length
  | 0, _, hs => hs
  | n + 1, _, hs => it_lt h n (ap_lt h hs)
theorem pw_len (f : List Nat) (n : Nat) : (pw f n).length = f.length := by unfold pw; rw [List.length_map, List.length_range]
theorem pw_get {f : List Nat} {n s : Nat} (hs : s < f.length) : ap (pw f n) s = it f n s := by
  unfold ap pw
  rw [List.getD_eq_getElem?_getD, List.getElem?_map, List.getElem?_range hs]
  rfl
theorem pw_chg {f : List Nat} (h : Chg f) (n : Nat) : Chg (pw f n) := fun x hx => by
  rw [pw_len]
  unfold pw at hx
  obtain ⟨s, hs, rfl⟩ := List.mem_map.mp hx
  exact it_lt h n (List.mem_range.mp hs)
theorem pw_zero (f : List Nat) : pw f 0 = List.range f.length := by
  unfold pw
  exact List.map_id' _
theorem cmp_pw {f : List Nat} (h : Chg f) (a b : Nat) : cmp (pw f a) (pw f b) = pw f (a + b) := by
  unfold cmp pw
  rw [List.map_map]
  refine List.map_congr_left fun s hs => ?_
  have hs' := List.mem_range.mp hs
  show ap (pw f b) (it f a s) = it f (a + b) s
  rw [pw_get (it_lt h a hs'), it_add]
theorem pw_one {f : List Nat} : pw f 1 = f := by
  refine List.ext_getElem (pw_len f 1) fun i h1 h2 => ?_
  have e := pw_get (n := 1) h2
  unfold ap at e
  rw [List.getD_eq_getElem?_getD, List.getElem?_eq_getElem h1] at e
  have e2 := ap_get h2
  rw [List.getElem?_eq_getElem h2] at e2
  exact e.trans (Option.some.inj e2).symm
theorem cmp_len (f g : List Nat) : (cmp f g).length = f.length := by unfold cmp; rw [List.length_map]
/-- the powers are alike exactly where all states are led alike -/
theorem pw_eq {f g : List Nat} (hl : f.length = g.length) (n : Nat) : pw f n = pw g n ↔ ∀ s, s < f.length → it f n s = it g n s := by
  constructor
  · intro e s hs
    rw [← pw_get hs, e, pw_get (by omega)]
  · intro e
    unfold pw
    rw [← hl]
    exact List.map_congr_left fun s hs => e s (List.mem_range.mp hs)
/-! ### machines -/
/-- the change of a command -/
def col (rows : List (List Nat)) (c : Nat) : List Nat := rows.map fun r => r.getD c 0
/-- rows of a machine: as many entries as commands, each a state -/
structure MW (c : Nat) (rows : List (List Nat)) : Prop where
  c0 : 0 < c
  cz : c ≤ 1000
  n0 : 0 < rows.length
  nz : rows.length ≤ 1000
  len : ∀ r ∈ rows, r.length = c
  lt : ∀ r ∈ rows, ∀ x ∈ r, x < rows.length
theorem col_len (rows : List (List Nat)) (c : Nat) : (col rows c).length = rows.length := by unfold col; rw [List.length_map]
theorem col_chg {c : Nat} {rows : List (List Nat)} (h : MW c rows) {k : Nat} (hk : k < c) : Chg (col rows k) := fun x hx => by
  rw [col_len]
  unfold col at hx
  obtain ⟨r, hr, rfl⟩ := List.mem_map.mp hx
  have hl := h.len r hr
  show r.getD k 0 < rows.length
  rw [List.getD_eq_getElem?_getD, List.getElem?_eq_getElem (by omega)]
  exact h.lt r hr _ (List.getElem_mem (by omega))
/-! ### tails and rings -/
/-- from t on, powers come again behind r more, at the state s -/
def Rep (f : List Nat) (s t r : Nat) : Prop := ∀ n, t ≤ n → it f (n + r) s = it f n s
theorem Rep.mul {f : List Nat} {s t r : Nat} (h : Rep f s t r) : ∀ k n, t ≤ n → it f (n + k * r) s = it f n s
  | 0, n, _ => by rw [Nat.zero_mul, Nat.add_zero]
  | k + 1, n, hn => by
    rw [Nat.succ_mul, ← Nat.add_assoc, h _ (by omega), Rep.mul h k n hn]
theorem Rep.dvd {f : List Nat} {s t r r' t' : Nat} (h : Rep f s t r) (ht : t ≤ t') (hr : r ∣ r') : Rep f s t' r' := fun n hn => by
  obtain ⟨k, rfl⟩ := hr
  rw [Nat.mul_comm]
  exact h.mul k n (by omega)
/-- t is the least number from which on the powers of f come again, r such a period -/
structure TR (f : List Nat) (t r : Nat) : Prop where
  t_le : t ≤ f.length
  r0 : 0 < r
  rd : r ∣ 720720
  rep : ∀ s, s < f.length → Rep f s t r
  min : ∀ t', (∃ r', 0 < r' ∧ ∀ s, s < f.length → Rep f s t' r') → t ≤ t'
theorem TR.uniq {f : List Nat} {t r t' r' : Nat} (a : TR f t r) (b : TR f t' r') : t = t' :=
  Nat.le_antisymm (a.min _ ⟨r', b.r0, b.rep⟩) (b.min _ ⟨r, a.r0, a.rep⟩)
/-- .. so far, for the states below i -/
structure TRi (f : List Nat) (i t r : Nat) : Prop where
  t_le : t ≤ f.length
  r0 : 0 < r
  rd : r ∣ 720720
  rep : ∀ s, s < i → Rep f s t r
  min : ∀ t', (∃ r', 0 < r' ∧ ∀ s, s < i → Rep f s t' r') → t ≤ t'
theorem TRi.zero (f : List Nat) : TRi f 0 0 1 := ⟨Nat.zero_le _, by decide, ⟨720720, rfl⟩, fun s h => absurd h (Nat.not_lt_zero _), fun _ _ => Nat.zero_le _⟩
theorem TRi.done {f : List Nat} {t r : Nat} (h : TRi f f.length t r) : TR f t r := ⟨h.t_le, h.r0, h.rd, h.rep, h.min⟩
/-- one state's path: a b the first two places that hold the same state -/
theorem TRi.step {f : List Nat} {i t r a b : Nat} (h : TRi f i t r) (hab : a < b) (hb : b ≤ f.length) (hl : f.length ≤ 16) (he : it f a i = it f b i)
    (hn : ∀ x y, x < y → y < b → it f x i ≠ it f y i) : TRi f (i + 1) (max t a) (Nat.lcm r (b - a)) := by
  have hc : Rep f i a (b - a) := fun n hn' => by
    obtain ⟨d, rfl⟩ := Nat.exists_eq_add_of_le hn'
    rw [show a + d + (b - a) = b + d by omega, it_add, it_add, ← he]
  have c16 : (b - a) ∣ 720720 := by
    have h1 : 1 ≤ b - a := by omega
    have h2 : b - a ≤ 16 := by omega
    generalize b - a = c at h1 h2
    have : c = 1 ∨ c = 2 ∨ c = 3 ∨ c = 4 ∨ c = 5 ∨ c = 6 ∨ c = 7 ∨ c = 8 ∨ c = 9 ∨ c = 10 ∨ c = 11 ∨ c = 12 ∨ c = 13 ∨ c = 14 ∨ c = 15 ∨ c = 16 := by omega
    rcases this with rfl | rfl | rfl | rfl | rfl | rfl | rfl | rfl | rfl | rfl | rfl | rfl | rfl | rfl | rfl | rfl <;> decide
  refine ⟨Nat.max_le.mpr ⟨h.t_le, by omega⟩, Nat.lcm_pos h.r0 (by omega), Nat.lcm_dvd h.rd c16, fun s hs => ?_, fun t' ⟨r', r0, hr⟩ => Nat.max_le.mpr ⟨h.min t' ⟨r', r0, fun s hs => hr s (by omega)⟩, ?_⟩⟩
  · by_cases hsi : s = i
    · subst hsi
      exact hc.dvd (Nat.le_max_right _ _) (Nat.dvd_lcm_right _ _)
    · exact (h.rep s (by omega)).dvd (Nat.le_max_left _ _) (Nat.dvd_lcm_left _ _)
  · -- below a no state of the path comes again
    refine Nat.le_of_not_lt fun hlt => ?_
    have hr' := hr i (Nat.lt_succ_self i)
    -- far on, at t' + k * r', the same state
    have e1 : it f (t' + a * r') i = it f t' i := hr'.mul a t' (Nat.le_refl _)
    have hge : a ≤ t' + a * r' := by
      have := Nat.le_mul_of_pos_right a r0
      omega
    obtain ⟨d, hd⟩ := Nat.exists_eq_add_of_le hge
    have hdm : d = d % (b - a) + d / (b - a) * (b - a) := by rw [Nat.mul_comm]; exact (Nat.mod_add_div d (b - a)).symm
    have e2 : it f (a + d) i = it f (a + d % (b - a)) i := by
      rw [hdm, ← Nat.add_assoc, hc.mul _ _ (Nat.le_add_right _ _)]
      rw [Nat.add_mul_mod_self_right, Nat.mod_mod]
    have hlt2 : d % (b - a) < b - a := Nat.mod_lt _ (by omega)
    refine hn t' (a + d % (b - a)) (by omega) (by omega) ?_
    rw [← e2, ← hd, e1]
theorem nd_le : ∀ (m : Nat) (l : List Nat), l.Nodup → (∀ x ∈ l, x < m) → l.length ≤ m
  | 0, l, _, h => by
    cases l with
    | nil => exact Nat.le_refl _
    | cons x r => exact absurd (h x List.mem_cons_self) (Nat.not_lt_zero _)
  | m + 1, l, nd, h => by
    by_cases hm : m ∈ l
    · have h1 := nd_le m (l.erase m) (nd.erase m) fun x hx => by
        have := (nd.mem_erase_iff).mp hx
        have h2 := h x this.2
        omega
      rw [List.length_erase_of_mem hm] at h1
      omega
    · have h1 := nd_le m l nd fun x hx => by
        have h2 := h x hx
        have : x ≠ m := fun e => hm (e ▸ hx)
        omega
      omega
/-- states on a path that does not come again are few -/
theorem path_le {f : List Nat} (hf : Chg f) {s j : Nat} (hs : s < f.length) (hn : ∀ x y, x < y → y < j → it f x s ≠ it f y s) : j ≤ f.length := by
  have h := nd_le f.length ((List.range j).map fun x => it f x s) ?_ ?_
  · rwa [List.length_map, List.length_range] at h
  · rw [List.Nodup, List.pairwise_map]
    refine List.Pairwise.imp_of_mem (R := fun a b => a < b) ?_ List.pairwise_lt_range
    intro a b ha hb hab
    exact hn a b hab (List.mem_range.mp hb)
  · intro x hx
    obtain ⟨y, _, rfl⟩ := List.mem_map.mp hx
    exact it_lt hf y hs
/-! ### from_on, primes -/
def upTo (n l : Nat) : Nat := (l + n - 1) / n * n
theorem upTo_ge {n l : Nat} (hn : 0 < n) : l ≤ upTo n l := by
  unfold upTo
  have h := Nat.mod_add_div (l + n - 1) n
  have h2 := Nat.mod_lt (l + n - 1) hn
  rw [Nat.mul_comm]
  omega
theorem upTo_lt {n l : Nat} (hn : 0 < n) : upTo n l < l + n := by
  unfold upTo
  have h := Nat.mod_add_div (l + n - 1) n
  rw [Nat.mul_comm]
  omega
theorem upTo_dvd (n l : Nat) : n ∣ upTo n l := Nat.dvd_mul_left _ _
/-- the primes that divide n: enough of them -/
structure Primes (n : Nat) (ps : List Nat) : Prop where
  two : ∀ p ∈ ps, 2 ≤ p
  all : ∀ k, 1 < k → k ∣ n → ∃ p ∈ ps, p ∣ k
/-- on the way: p is tried next, m is left -/
structure PrI (n p m : Nat) (ps : List Nat) : Prop where
  m0 : 0 < m
  mn : m ≤ n
  p2 : 2 ≤ p
  two : ∀ q ∈ ps, 2 ≤ q
  low : ∀ d, 1 < d → d < p → ¬ d ∣ m
  all : ∀ k, (∀ q ∈ ps, ¬ q ∣ k) → k ∣ n → k ∣ m
theorem PrI.start {n : Nat} (hn : 0 < n) : PrI n 2 n [] := ⟨hn, Nat.le_refl _, Nat.le_refl _, fun _ h => absurd h (List.not_mem_nil), fun d h1 h2 => by omega, fun k _ h => h⟩
theorem PrI.p_le {n p m : Nat} {ps : List Nat} (h : PrI n p m ps) (h1 : 1 < m) : p ≤ m := Nat.le_of_not_lt fun hl => h.low m h1 hl (Nat.dvd_refl _)
theorem PrI.add {n p m : Nat} {ps : List Nat} (h : PrI n p m ps) : PrI n p m (ps ++ [p]) :=
  ⟨h.m0, h.mn, h.p2, fun q hq => (List.mem_append.mp hq).elim (h.two q) fun z => by rw [List.mem_singleton.mp z]; exact h.p2, h.low, fun k hk => h.all k fun q hq => hk q (List.mem_append_left _ hq)⟩
theorem PrI.div {n p m : Nat} {ps : List Nat} (h : PrI n p m ps) (hp : p ∈ ps) (hd : m % p = 0) : PrI n p (m / p) ps := by
  have hpd : p ∣ m := Nat.dvd_of_mod_eq_zero hd
  obtain ⟨c, rfl⟩ := hpd
  have p0 : 0 < p := by have := h.p2; omega
  have c0 : 0 < c := Nat.pos_of_ne_zero fun e => by have := h.m0; rw [e, Nat.mul_zero] at this; omega
  rw [Nat.mul_div_cancel_left _ p0]
  refine ⟨c0, Nat.le_trans (Nat.le_mul_of_pos_left c p0) h.mn, h.p2, h.two, fun d h1 h2 hdc => h.low d h1 h2 (Nat.dvd_trans hdc (Nat.dvd_mul_left c p)), fun k hk hkn => ?_⟩
  have hkm := h.all k hk hkn
  have hg : Nat.gcd k p = 1 := by
    have g0 : 0 < Nat.gcd k p := Nat.gcd_pos_of_pos_right k p0
    refine Nat.le_antisymm (Nat.le_of_not_lt fun hl => ?_) g0
    have hgp := Nat.le_of_dvd p0 (Nat.gcd_dvd_right k p)
    by_cases e : Nat.gcd k p = p
    · exact hk p hp (e ▸ Nat.gcd_dvd_left k p)
    · exact h.low _ hl (by omega) (Nat.dvd_trans (Nat.gcd_dvd_right k p) (Nat.dvd_mul_right p c))
  exact Nat.Coprime.dvd_of_dvd_mul_left hg hkm
theorem PrI.next {n p m : Nat} {ps : List Nat} (h : PrI n p m ps) (hd : m % p ≠ 0) : PrI n (p + 1) m ps :=
  ⟨h.m0, h.mn, by have := h.p2; omega, h.two, fun d h1 h2 hdm => by
    by_cases e : d = p
    · subst e
      exact hd (Nat.mod_eq_zero_of_dvd hdm)
    · exact h.low d h1 (by omega) hdm, h.all⟩
theorem PrI.done {n p m : Nat} {ps : List Nat} (h : PrI n p m ps) (h1 : ¬ 1 < m) : Primes n ps := ⟨h.two, fun k hk hkn => by
  apply Classical.byContradiction
  intro hne
  have := h.all k (fun q hq hd => hne ⟨q, hq, hd⟩) hkn
  have m1 : m = 1 := by have := h.m0; omega
  rw [m1] at this
  have := Nat.dvd_one.mp this
  omega⟩
/-! ### the change of a row -/
def chOf (rows : List (List Nat)) (row : List Nat) : List Nat := row.foldl (fun f k => cmp f (col rows k)) (List.range rows.length)
theorem chg_range (n : Nat) : Chg (List.range n) := fun x hx => by rw [List.length_range]; exact List.mem_range.mp hx
theorem chg_cmp {f g : List Nat} (hf : Chg f) (hg : Chg g) (hl : f.length = g.length) : Chg (cmp f g) := fun x hx => by
  rw [cmp_len]
  unfold cmp at hx
  obtain ⟨s, hs, rfl⟩ := List.mem_map.mp hx
  rw [hl]
  exact ap_lt hg (by rw [← hl]; exact hf s hs)
theorem chOf_ok {c : Nat} {rows : List (List Nat)} (h : MW c rows) : ∀ row : List Nat, (∀ k ∈ row, k < c) → (chOf rows row).length = rows.length ∧ Chg (chOf rows row) := by
  have key : ∀ (row : List Nat) (f : List Nat), (∀ k ∈ row, k < c) → f.length = rows.length → Chg f → (row.foldl (fun f k => cmp f (col rows k)) f).length = rows.length ∧ Chg (row.foldl (fun f k => cmp f (col rows k)) f) := by
    intro row
    induction row with
    | nil => intro f _ hl hf; exact ⟨hl, hf⟩
    | cons k r ih =>
      intro f hk hl hf
      refine ih _ (fun x hx => hk x (List.mem_cons_of_mem _ hx)) (by rw [cmp_len, hl]) (chg_cmp hf (col_chg h (hk k List.mem_cons_self)) (by rw [hl, col_len]))
  intro row hk
  exact key row _ hk List.length_range (chg_range _)
theorem chOf_take {rows : List (List Nat)} {row : List Nat} {i k : Nat} (h : row[i]? = some k) : chOf rows (row.take (i + 1)) = cmp (chOf rows (row.take i)) (col rows k) := by
  unfold chOf
  rw [List.take_add_one, h, List.foldl_append]
  rfl
end Bf
/-! Falling rows, agreeing counts. -/
namespace Bf
/-! ### falling rows -/
def within : List (Nat × Nat) → Nat → Nat → Bool
  | [], e, c => if e = 0 then decide (c = 0) else decide (c % e = 0)
  | (s, t) :: r, e, c => if c < s * t then decide (c % s = 0) else within r e (c - s * t)
def nxt : List (Nat × Nat) → Nat → Nat
  | [], e => e
  | (s, _) :: _, _ => s
def Fall : List (Nat × Nat) → Nat → Prop
  | [], _ => True
  | (s, t) :: r, e => 0 < s ∧ 0 < t ∧ 0 < e ∧ nxt r e < s ∧ within r e s = true ∧ Fall r e
/-- the runs tell the members of A from b on -/
def Tells (A : Nat → Prop) (e : Nat) : Nat → List (Nat × Nat) → Prop
  | b, [] => ∀ c, A (b + c) ↔ e ∣ c
  | b, (s, t) :: r => 0 < s ∧ 0 < t ∧ (∀ c, c < s * t → (A (b + c) ↔ s ∣ c)) ∧ Tells A e (b + s * t) r
theorem Tells.within {A : Nat → Prop} {e : Nat} (he : 0 < e) : ∀ {b : Nat} {rs : List (Nat × Nat)}, Tells A e b rs → ∀ c, within rs e c = true ↔ A (b + c)
  | b, [], h, c => by
    unfold Bf.within
    rw [if_neg (by omega), decide_eq_true_iff]
    exact (Nat.dvd_iff_mod_eq_zero).symm.trans (h c).symm
  | b, (s, t) :: r, h, c => by
    unfold Bf.within
    by_cases hc : c < s * t
    · rw [if_pos hc, decide_eq_true_iff]
      exact (Nat.dvd_iff_mod_eq_zero).symm.trans (h.2.2.1 c hc).symm
    · rw [if_neg hc, Tells.within he h.2.2.2 (c - s * t), show b + s * t + (c - s * t) = b + c by omega]
structure Closed (A : Nat → Prop) : Prop where
  zero : A 0
  cl : ∀ x y z, A x → A y → A z → z ≤ x → z ≤ y → A (x + y - z)
/-- steps next to each other are unlike -/
def Adj : List (Nat × Nat) → Prop
  | [] => True
  | [_] => True
  | (s, _) :: (s', t') :: r => s ≠ s' ∧ Adj ((s', t') :: r)
def lastNe : List (Nat × Nat) → Nat → Prop
  | [], _ => True
  | [(s, _)], e => s ≠ e
  | _ :: x :: r, e => lastNe (x :: r) e
theorem Tells.fall {A : Nat → Prop} (hA : Closed A) {e : Nat} (he : 0 < e) : ∀ {b : Nat} {rs : List (Nat × Nat)}, A b → Tells A e b rs → Adj rs → lastNe rs e → Fall rs e
  | _, [], _, _, _, _ => trivial
  | b, (s, t) :: r, hb, h, ha, hl => by
    obtain ⟨s0, t0, h1, h2⟩ := h
    have hlt : s * (t - 1) < s * t := Nat.mul_lt_mul_of_pos_left (by omega) s0
    have hst : s * (t - 1) + s = s * t := by
      rw [← Nat.mul_succ]
      congr 1
      omega
    have hz : A (b + s * (t - 1)) := (h1 _ hlt).mpr (Nat.dvd_mul_right _ _)
    have hx : A (b + s * t) := by
      cases r with
      | nil => exact (h2 0).mpr (Nat.dvd_zero e)
      | cons x r' => exact (h2.2.2.1 0 (Nat.mul_pos h2.1 h2.2.1)).mpr (Nat.dvd_zero _)
    have hy : A (b + s * t + s) := by
      have := hA.cl _ _ _ hx hx hz (by omega) (by omega)
      rwa [show b + s * t + (b + s * t) - (b + s * (t - 1)) = b + s * t + s by omega] at this
    have hw : Bf.within r e s = true := (h2.within he s).mpr hy
    cases r with
    | nil =>
      have hne : s ≠ e := hl
      have hd : e ∣ s := (h2 s).mp hy
      have := Nat.le_of_dvd s0 hd
      exact ⟨s0, t0, he, by show e < s; omega, hw, trivial⟩
    | cons x r' =>
      obtain ⟨s', t'⟩ := x
      have hne : s ≠ s' := ha.1
      have hle : s' ≤ s := by
        by_cases hc : s < s' * t'
        · exact Nat.le_of_dvd s0 ((h2.2.2.1 s hc).mp hy)
        · have := Nat.le_mul_of_pos_right s' h2.2.1
          omega
      exact ⟨s0, t0, he, by show s' < s; omega, hw, Tells.fall hA he hx h2 ha.2 hl⟩
/-- .. and end at x -/
def TellsTo (A : Nat → Prop) : Nat → List (Nat × Nat) → Nat → Prop
  | b, [], x => b = x
  | b, (s, t) :: r, x => 0 < s ∧ 0 < t ∧ (∀ c, c < s * t → (A (b + c) ↔ s ∣ c)) ∧ TellsTo A (b + s * t) r x
theorem TellsTo.snoc {A : Nat → Prop} {s t : Nat} : ∀ {b : Nat} {rs : List (Nat × Nat)} {x : Nat}, TellsTo A b rs x → 0 < s → 0 < t → (∀ c, c < s * t → (A (x + c) ↔ s ∣ c)) → TellsTo A b (rs ++ [(s, t)]) (x + s * t)
  | b, [], x, h, s0, t0, hc => by
    have h' : b = x := h
    subst h'
    exact ⟨s0, t0, hc, rfl⟩
  | b, (s', t') :: r, x, h, s0, t0, hc => ⟨h.1, h.2.1, h.2.2.1, TellsTo.snoc h.2.2.2 s0 t0 hc⟩
theorem TellsTo.unsnoc {A : Nat → Prop} {s t : Nat} : ∀ {b : Nat} {rs : List (Nat × Nat)} {x : Nat}, TellsTo A b (rs ++ [(s, t)]) x → ∃ y, TellsTo A b rs y ∧ x = y + s * t ∧ 0 < s ∧ 0 < t ∧ ∀ c, c < s * t → (A (y + c) ↔ s ∣ c)
  | b, [], x, h => ⟨b, rfl, h.2.2.2.symm, h.1, h.2.1, h.2.2.1⟩
  | b, (s', t') :: r, x, h => by
    obtain ⟨y, h1, h2⟩ := TellsTo.unsnoc (rs := r) h.2.2.2
    exact ⟨y, ⟨h.1, h.2.1, h.2.2.1, h1⟩, h2⟩
theorem TellsTo.tells {A : Nat → Prop} {e : Nat} : ∀ {b : Nat} {rs : List (Nat × Nat)} {x : Nat}, TellsTo A b rs x → (∀ c, A (x + c) ↔ e ∣ c) → Tells A e b rs
  | b, [], x, h, hc => by
    have h' : b = x := h
    subst h'
    exact hc
  | b, (s, t) :: r, x, h, hc => ⟨h.1, h.2.1, h.2.2.1, TellsTo.tells h.2.2.2 hc⟩
theorem adj_snoc {s t d k : Nat} (hd : s ≠ d) : ∀ {rs : List (Nat × Nat)}, Adj (rs ++ [(s, t)]) → Adj (rs ++ [(s, t)] ++ [(d, k)])
  | [], _ => ⟨hd, trivial⟩
  | [_], h => ⟨h.1, hd, trivial⟩
  | _ :: x :: r, h => ⟨h.1, adj_snoc (rs := x :: r) hd h.2⟩
theorem adj_time {s t t' : Nat} : ∀ {rs : List (Nat × Nat)}, Adj (rs ++ [(s, t)]) → Adj (rs ++ [(s, t')])
  | [], _ => trivial
  | [_], h => ⟨h.1, trivial⟩
  | _ :: x :: r, h => ⟨h.1, adj_time (rs := x :: r) h.2⟩
theorem adj_drop {x : Nat × Nat} : ∀ {rs : List (Nat × Nat)}, Adj (rs ++ [x]) → Adj rs
  | [], _ => trivial
  | [_], _ => trivial
  | _ :: y :: r, h => ⟨h.1, adj_drop (rs := y :: r) h.2⟩
theorem last_snoc {s t e : Nat} (h : s ≠ e) : ∀ {rs : List (Nat × Nat)}, lastNe (rs ++ [(s, t)]) e
  | [] => h
  | [_] => h
  | _ :: y :: r => last_snoc (rs := y :: r) h
theorem last_drop {t e : Nat} : ∀ {rs : List (Nat × Nat)}, Adj (rs ++ [(e, t)]) → lastNe rs e
  | [], _ => trivial
  | [_], h => h.1
  | _ :: y :: r, h => last_drop (rs := y :: r) h.2
/-- behind so many counts of an ascending list: the runs so far -/
structure RunI (A : Nat → Prop) (rs : List (Nat × Nat)) (x : Nat) : Prop where
  to : TellsTo A 0 rs x
  adj : Adj rs
theorem RunI.zero (A : Nat → Prop) : RunI A [] 0 := ⟨rfl, trivial⟩
/-- d on is the next member -/
def Next (A : Nat → Prop) (x d : Nat) : Prop := 0 < d ∧ ∀ c, c < d → (A (x + c) ↔ c = 0)
theorem RunI.more {A : Nat → Prop} {rs : List (Nat × Nat)} {x s t : Nat} (h : RunI A (rs ++ [(s, t)]) x) (hn : Next A x s) : RunI A (rs ++ [(s, t + 1)]) (x + s) := by
  obtain ⟨y, h1, h2, s0, t0, h3⟩ := h.to.unsnoc
  refine ⟨?_, adj_time h.adj⟩
  have e : x + s = y + s * (t + 1) := by rw [h2, Nat.mul_succ]; omega
  rw [e]
  refine h1.snoc s0 (by omega) fun c hc => ?_
  by_cases hlt : c < s * t
  · exact h3 c hlt
  · rw [Nat.mul_succ] at hc
    have h4 := hn.2 (c - s * t) (by omega)
    rw [show x + (c - s * t) = y + c by omega] at h4
    rw [h4]
    constructor
    · intro hz
      exact ⟨t, by omega⟩
    · rintro ⟨k, hk⟩
      have : k < t + 1 := by
        apply Nat.lt_of_not_le
        intro hge
        have := Nat.mul_le_mul_left s hge
        rw [Nat.mul_succ] at this
        omega
      have := Nat.mul_le_mul_left s (show k ≤ t by omega)
      omega
theorem RunI.other {A : Nat → Prop} {rs : List (Nat × Nat)} {x s t d : Nat} (h : RunI A (rs ++ [(s, t)]) x) (hd : s ≠ d) (hn : Next A x d) : RunI A (rs ++ [(s, t)] ++ [(d, 1)]) (x + d) := by
  refine ⟨?_, adj_snoc hd h.adj⟩
  have := h.to.snoc (t := 1) hn.1 (by decide) fun c hc => by
    rw [Nat.mul_one] at hc
    rw [hn.2 c hc]
    constructor
    · intro e; subst e; exact Nat.dvd_zero _
    · intro hdv; exact Nat.eq_zero_of_dvd_of_lt hdv hc
  rwa [Nat.mul_one] at this
theorem RunI.first {A : Nat → Prop} {d : Nat} (hn : Next A 0 d) : RunI A [(d, 1)] d := by
  have := (RunI.zero A).to.snoc (t := 1) hn.1 (by decide) fun c hc => by
    rw [Nat.mul_one] at hc
    rw [hn.2 c hc]
    constructor
    · intro e; subst e; exact Nat.dvd_zero _
    · intro hdv; exact Nat.eq_zero_of_dvd_of_lt hdv hc
  rw [Nat.mul_one, Nat.zero_add] at this
  exact ⟨this, trivial⟩
/-- the runs without those like the end at last -/
def cutEnd (rs : List (Nat × Nat)) (e : Nat) : List (Nat × Nat) := match rs.getLast? with
  | some (s, _) => if s = e then rs.dropLast else rs
  | none => rs
theorem RunI.done {A : Nat → Prop} (hA : Closed A) {rs : List (Nat × Nat)} {x e : Nat} (h : RunI A rs x) (he : 0 < e) (hx : ∀ c, A (x + c) ↔ e ∣ c) :
    Fall (cutEnd rs e) e ∧ ∀ c, within (cutEnd rs e) e c = true ↔ A c := by
  have key : ∀ rs', Tells A e 0 rs' → Adj rs' → lastNe rs' e → Fall rs' e ∧ ∀ c, within rs' e c = true ↔ A c := fun rs' h1 h2 h3 =>
    ⟨h1.fall hA he hA.zero h2 h3, fun c => by have := h1.within he c; rwa [Nat.zero_add] at this⟩
  unfold cutEnd
  rcases List.eq_nil_or_concat rs with rfl | ⟨r0, ⟨s, t⟩, rfl⟩
  · exact key _ (h.to.tells hx) trivial trivial
  · rw [List.concat_eq_append] at h ⊢
    rw [List.getLast?_concat]
    show Fall (if s = e then (r0 ++ [(s, t)]).dropLast else r0 ++ [(s, t)]) e ∧ ∀ c, within (if s = e then (r0 ++ [(s, t)]).dropLast else r0 ++ [(s, t)]) e c = true ↔ A c
    by_cases hs : s = e
    · subst hs
      rw [if_pos rfl, List.dropLast_concat]
      obtain ⟨y, h1, h2, s0, t0, h3⟩ := h.to.unsnoc
      refine key _ (h1.tells fun c => ?_) (adj_drop h.adj) (last_drop h.adj)
      by_cases hc : c < s * t
      · exact h3 c hc
      · have h4 := hx (c - s * t)
        rw [h2, show y + s * t + (c - s * t) = y + c by omega] at h4
        rw [h4]
        constructor
        · intro hd
          have := Nat.dvd_add hd (Nat.dvd_mul_right s t)
          rwa [Nat.sub_add_cancel (by omega)] at this
        · intro hd
          exact Nat.dvd_sub hd (Nat.dvd_mul_right s t)
    · rw [if_neg hs]
      exact key _ (h.to.tells hx) h.adj (last_snoc hs)
/-! ### two changes -/
structure Two (f g : List Nat) : Prop where
  cf : Chg f
  cg : Chg g
  len : f.length = g.length
/-- they agree at a count -/
def Ag (f g : List Nat) (n : Nat) : Prop := pw f n = pw g n
instance (f g : List Nat) (n : Nat) : Decidable (Ag f g n) := inferInstanceAs (Decidable (pw f n = pw g n))
theorem Two.ag {f g : List Nat} (h : Two f g) (n : Nat) : Ag f g n ↔ ∀ s, s < f.length → it f n s = it g n s := pw_eq h.len n
theorem Two.closed {f g : List Nat} (h : Two f g) : Closed (Ag f g) := by
  constructor
  · exact (h.ag 0).mpr fun s _ => rfl
  · intro x y z hx hy hz hzx hzy
    rw [h.ag] at hx hy hz ⊢
    intro s hs
    obtain ⟨u, rfl⟩ := Nat.exists_eq_add_of_le hzx
    obtain ⟨v, rfl⟩ := Nat.exists_eq_add_of_le hzy
    rw [show z + u + (z + v) - z = u + (z + v) by omega]
    -- f: u, then z + v
    have hgu : it g u s < f.length := by rw [h.len]; exact it_lt h.cg u (by rw [← h.len]; exact hs)
    calc it f (u + (z + v)) s = it f ((z + u) + v) s := by rw [show u + (z + v) = z + u + v by omega]
      _ = it f v (it f (z + u) s) := it_add f _ _ _
      _ = it f v (it g (z + u) s) := by rw [hx s hs]
      _ = it f v (it g z (it g u s)) := by rw [Nat.add_comm z u, it_add]
      _ = it f v (it f z (it g u s)) := by rw [hz _ hgu]
      _ = it f (z + v) (it g u s) := (it_add f z v _).symm
      _ = it g (z + v) (it g u s) := hy _ hgu
      _ = it g (u + (z + v)) s := (it_add g u (z + v) s).symm
theorem Closed.add {A : Nat → Prop} (h : Closed A) {x y : Nat} (hx : A x) (hy : A y) : A (x + y) := h.cl x y 0 hx hy h.zero (Nat.zero_le _) (Nat.zero_le _)
theorem Closed.mul {A : Nat → Prop} (h : Closed A) {x : Nat} (hx : A x) : ∀ k, A (x * k)
  | 0 => by rw [Nat.mul_zero]; exact h.zero
  | k + 1 => by rw [Nat.mul_succ]; exact h.add (h.mul hx k) hx
/-- from T on the set A comes again behind R more -/
structure Peri (A : Nat → Prop) (T R : Nat) : Prop where
  R0 : 0 < R
  per : ∀ n, T ≤ n → (A (n + R) ↔ A n)
theorem Peri.mul {A : Nat → Prop} {T R : Nat} (h : Peri A T R) : ∀ k n, T ≤ n → (A (n + R * k) ↔ A n)
  | 0, n, _ => by rw [Nat.mul_zero, Nat.add_zero]
  | k + 1, n, hn => by rw [Nat.mul_succ, ← Nat.add_assoc, h.per _ (by omega), h.mul k n hn]
theorem Two.peri {f g : List Nat} (h : Two f g) {t r t' r' : Nat} (a : TR f t r) (b : TR g t' r') : Peri (Ag f g) (max t t') (Nat.lcm r r') := by
  refine ⟨Nat.lcm_pos a.r0 b.r0, fun n hn => ?_⟩
  rw [h.ag, h.ag]
  have e : ∀ s, s < f.length → it f (n + Nat.lcm r r') s = it f n s ∧ it g (n + Nat.lcm r r') s = it g n s := fun s hs =>
    ⟨(a.rep s hs).dvd (Nat.le_max_left _ _) (Nat.dvd_lcm_left r r') n hn, (b.rep s (by rw [← h.len]; exact hs)).dvd (Nat.le_max_right _ _) (Nat.dvd_lcm_right r r') n hn⟩
  constructor
  · intro q s hs; rw [← (e s hs).1, ← (e s hs).2]; exact q s hs
  · intro q s hs; rw [(e s hs).1, (e s hs).2]; exact q s hs
/-- far on no count but 0 is in A -/
theorem none_far {A : Nat → Prop} (hA : Closed A) {T R far : Nat} (hP : Peri A T R) (hR : R ∣ far) (hT : T ≤ far) (h : ¬ A (far + R)) : ∀ c, A c → c = 0 := by
  intro c hc
  apply Classical.byContradiction
  intro h0
  have h1 := hA.mul hc (far + R)
  obtain ⟨k, rfl⟩ := hR
  have e : c * (R * k + R) = (R * k + R) + R * ((c - 1) * (k + 1)) := by
    obtain ⟨d, rfl⟩ : ∃ d, c = d + 1 := ⟨c - 1, by omega⟩
    rw [Nat.add_sub_cancel, ← Nat.mul_succ R k, Nat.succ_eq_add_one, Nat.add_mul, Nat.one_mul, Nat.add_comm, ← Nat.mul_assoc d, Nat.mul_comm d R, Nat.mul_assoc]
  rw [e, hP.mul _ _ (by omega)] at h1
  exact h h1
/-- the way to the end: e so far, the primes qs are done -/
structure EI (A : Nat → Prop) (far R e : Nat) (qs : List Nat) : Prop where
  e0 : 0 < e
  eR : e ∣ R
  De : A (far + e)
  low : ∀ p ∈ qs, p ∣ e → ¬ A (far + e / p)
section
variable {A : Nat → Prop} (hA : Closed A) {T R far : Nat} (hP : Peri A T R) (hR : R ∣ far) (hT : T ≤ far)
include hA hP hR hT
theorem D_add {d d' : Nat} (h : A (far + d)) (h' : A (far + d')) : A (far + (d + d')) := by
  obtain ⟨k, hk⟩ := hR
  have := hA.add h h'
  rw [show far + d + (far + d') = far + (d + d') + far by omega] at this
  rw [hk] at this ⊢
  rwa [hP.mul k _ (by omega)] at this
theorem D_zero (h : A (far + R)) : A (far + 0) := (hP.per _ (by omega)).mp h
theorem D_mul (h : A (far + R)) {d : Nat} (hd : A (far + d)) : ∀ k, A (far + d * k)
  | 0 => by rw [Nat.mul_zero]; exact D_zero hA hP hR hT h
  | k + 1 => by rw [Nat.mul_succ]; exact D_add hA hP hR hT (D_mul h hd k) hd
theorem D_sub (h : A (far + R)) {d d' : Nat} (hd : A (far + (d + d'))) (hd' : A (far + d')) : A (far + d) := by
  -- b = far + R * d' is no less than far + d'
  have hb : A (far + R * d') := by
    rw [hP.mul _ _ (by omega)]
    exact D_zero hA hP hR hT h
  have hle : d' ≤ R * d' := Nat.le_mul_of_pos_left d' hP.R0
  have := hA.cl _ _ _ hd hb hd' (by omega) (by omega)
  rw [show far + (d + d') + (far + R * d') - (far + d') = far + d + R * d' by omega, hP.mul _ _ (by omega)] at this
  exact this
theorem D_mod (h : A (far + R)) {d e : Nat} (hd : A (far + d)) (he : A (far + e)) : A (far + d % e) := by
  have h1 := D_mul hA hP hR hT h he (d / e)
  refine D_sub hA hP hR hT h (d' := e * (d / e)) ?_ h1
  rw [Nat.mod_add_div]
  exact hd
theorem D_gcd (h : A (far + R)) (d e : Nat) : A (far + d) → A (far + e) → A (far + Nat.gcd d e) := by
  induction d, e using Nat.gcd.induction with
  | H0 n => intro _ he; rw [Nat.gcd_zero_left]; exact he
  | H1 m n _ ih =>
    intro hm hn
    rw [Nat.gcd_rec]
    exact ih (D_mod hA hP hR hT h hn hm) hm
theorem EI.done {e : Nat} {qs : List Nat} (h : EI A far R e qs) (hq : Primes R qs) : 0 < e ∧ ∀ c, T ≤ c → (A c ↔ e ∣ c) := by
  have hAR : A (far + R) := by
    obtain ⟨k, hk⟩ := hR
    -- far + e is in A; D is closed under multiples: R is one of e
    obtain ⟨j, hj⟩ := h.eR
    have h0 : A (far + 0) := by
      have h1 := hA.mul h.De (R * 1)
      -- (far + e) * R is a multiple of R, not less than T
      have e1 : (far + e) * (R * 1) = far + R * ((k * (R - 1)) + e) := by
        rw [Nat.mul_one, Nat.add_mul, Nat.mul_add, hk]
        have R0 := hP.R0
        obtain ⟨m, rfl⟩ : ∃ m, R = m + 1 := ⟨R - 1, by omega⟩
        rw [Nat.add_sub_cancel, Nat.mul_comm e (m + 1), Nat.mul_assoc (m + 1) k (m + 1), Nat.mul_succ k m, Nat.mul_add (m + 1) (k * m) k, Nat.add_comm ((m + 1) * (k * m)) ((m + 1) * k), Nat.add_assoc]
      rw [e1, hP.mul _ _ hT] at h1
      exact h1
    exact (hP.per far hT).mpr h0
  refine ⟨h.e0, fun c hc => ?_⟩
  have gcdcase : ∀ d, A (far + d) → e ∣ d := by
    intro d hd
    have hg := D_gcd hA hP hR hT hAR d e hd h.De
    have gd : Nat.gcd d e ∣ e := Nat.gcd_dvd_right d e
    have g0 : 0 < Nat.gcd d e := Nat.gcd_pos_of_pos_right d h.e0
    obtain ⟨k, hk⟩ := gd
    by_cases k1 : k = 1
    · rw [k1, Nat.mul_one] at hk
      rw [hk]
      exact Nat.gcd_dvd_left d e
    · have k0 : 0 < k := Nat.pos_of_ne_zero fun z => by rw [z, Nat.mul_zero] at hk; have := h.e0; omega
      have kR : k ∣ R := Nat.dvd_trans ⟨Nat.gcd d e, by rw [Nat.mul_comm]; exact hk⟩ h.eR
      obtain ⟨p, hp, hpk⟩ := hq.all k (by omega) kR
      obtain ⟨j, hj⟩ := hpk
      have hp2 := hq.two p hp
      have e2 : e = p * (Nat.gcd d e * j) := by
        rw [← Nat.mul_assoc, Nat.mul_comm p, Nat.mul_assoc, ← hj]
        exact hk
      have e3 : e / p = Nat.gcd d e * j := by
        rw [e2, Nat.mul_div_cancel_left _ (by omega)]
        rw [← e2]
      exact absurd (by rw [e3]; exact D_mul hA hP hR hT hAR hg j) (h.low p hp ⟨_, e2⟩)
  constructor
  · intro h1
    refine gcdcase c ?_
    have h0 := D_zero hA hP hR hT hAR
    rw [Nat.add_zero] at h0
    exact hA.add h0 h1
  · rintro ⟨k, rfl⟩
    have h1 := D_mul hA hP hR hT hAR h.De k
    obtain ⟨j, hj⟩ := hR
    rw [Nat.add_comm, hj, hP.mul _ _ hc] at h1
    exact h1
theorem EI.start (h : A (far + R)) : EI A far R R [] := ⟨hP.R0, Nat.dvd_refl _, h, fun _ h => absurd h List.not_mem_nil⟩
theorem EI.div {e p : Nat} {qs : List Nat} (hAR : A (far + R)) (h : EI A far R e qs) (hp : 0 < p) (hd : e % p = 0) (ha : A (far + e / p)) : EI A far R (e / p) qs := by
  have hpd := Nat.dvd_of_mod_eq_zero hd
  have e0 : 0 < e / p := Nat.div_pos (Nat.le_of_dvd h.e0 hpd) hp
  refine ⟨e0, Nat.dvd_trans (Nat.div_dvd_of_dvd hpd) h.eR, ha, fun q hq hqe hA' => ?_⟩
  have hqe2 : q ∣ e := Nat.dvd_trans hqe (Nat.div_dvd_of_dvd hpd)
  refine h.low q hq hqe2 ?_
  -- e / q = (e / p / q) * p
  have hm := D_mul hA hP hR hT hAR hA' p
  have : e / p / q * p = e / q := by
    rw [Nat.div_div_eq_div_mul, Nat.mul_comm p q, ← Nat.div_div_eq_div_mul]
    refine Nat.div_mul_cancel ?_
    obtain ⟨j, hj⟩ := hqe
    refine ⟨j, ?_⟩
    have he : e = q * (p * j) := by
      rw [← Nat.mul_div_cancel' hpd, hj, ← Nat.mul_assoc, Nat.mul_comm p q, Nat.mul_assoc]
    have q0 : 0 < q := Nat.pos_of_ne_zero fun z => by rw [z, Nat.zero_mul] at he; have := h.e0; omega
    rw [he, Nat.mul_div_cancel_left _ q0]
  rwa [this] at hm
end
theorem EI.next {A : Nat → Prop} {far R e p : Nat} {qs : List Nat} (h : EI A far R e qs) (hn : e % p = 0 → ¬ A (far + e / p)) : EI A far R e (qs ++ [p]) :=
  ⟨h.e0, h.eR, h.De, fun q hq hd => (List.mem_append.mp hq).elim (fun z => h.low q z hd) fun z => by rw [List.mem_singleton.mp z] at hd ⊢; exact hn (Nat.mod_eq_zero_of_dvd hd)⟩
/-! ### the members of a set below a number -/
/-- an ascending list of counts from 0 on, each the next member behind the one ahead -/
structure Rise (A : Nat → Prop) (L : List Nat) : Prop where
  zero : L[0]? = some 0
  next : ∀ (i x y : Nat), L[i]? = some x → L[i + 1]? = some y → x < y ∧ Next A x (y - x)
  few : L.length ≤ 1000
def below (A : Nat → Prop) [DecidablePred A] (n : Nat) : List Nat := (List.range n).filter fun c => decide (A c)
section
variable {A : Nat → Prop} [DecidablePred A]
theorem below_mem {n c : Nat} : c ∈ below A n ↔ c < n ∧ A c := by
  unfold below
  rw [List.mem_filter, List.mem_range, decide_eq_true_iff]
theorem below_lt (n : Nat) : (below A n).Pairwise (· < ·) := List.Pairwise.filter _ List.pairwise_lt_range
theorem below_len (n : Nat) : (below A n).length ≤ n := by
  have := List.length_filter_le (fun c => decide (A c)) (List.range n)
  rwa [List.length_range] at this
theorem sorted_lt {L : List Nat} (h : L.Pairwise (· < ·)) {i j x y : Nat} (hx : L[i]? = some x) (hy : L[j]? = some y) (hij : i < j) : x < y := by
  obtain ⟨hi, rfl⟩ := List.getElem?_eq_some_iff.mp hx
  obtain ⟨hj, rfl⟩ := List.getElem?_eq_some_iff.mp hy
  exact List.pairwise_iff_getElem.mp h i j hi hj hij
theorem sorted_ix {L : List Nat} (h : L.Pairwise (· < ·)) {i j x y : Nat} (hx : L[i]? = some x) (hy : L[j]? = some y) (hxy : x < y) : i < j := by
  apply Nat.lt_of_not_le
  intro hle
  rcases Nat.lt_or_eq_of_le hle with h1 | h1
  · have := sorted_lt h hy hx h1
    omega
  · subst h1
    rw [hx] at hy
    cases hy
    omega
theorem below_rise {n : Nat} (hn : 0 < n) (h0 : A 0) (hz : (below A n).length ≤ 1000) : Rise A (below A n) := by
  have hs := below_lt (A := A) n
  refine ⟨?_, fun i x y hx hy => ?_, hz⟩
  · have hm : 0 ∈ below A n := below_mem.mpr ⟨hn, h0⟩
    obtain ⟨j, hj⟩ := List.getElem?_of_mem hm
    cases j with
    | zero => exact hj
    | succ j =>
      have hjl := (List.getElem?_eq_some_iff.mp hj).1
      have h1 : (below A n)[0]? = some (below A n)[0] := List.getElem?_eq_getElem (by omega)
      have := sorted_lt hs h1 hj (Nat.succ_pos j)
      omega
  · have hxy := sorted_lt hs hx hy (Nat.lt_succ_self i)
    have hxm := below_mem.mp (List.mem_of_getElem? hx)
    have hym := below_mem.mp (List.mem_of_getElem? hy)
    refine ⟨hxy, by omega, fun c hc => ?_⟩
    constructor
    · intro ha
      apply Classical.byContradiction
      intro hc0
      have hm : x + c ∈ below A n := below_mem.mpr ⟨by omega, ha⟩
      obtain ⟨j, hj⟩ := List.getElem?_of_mem hm
      have h1 := sorted_ix hs hx hj (by omega)
      have h2 := sorted_ix hs hj hy (by omega)
      omega
    · rintro rfl
      exact hxm.2
theorem below_far {e T : Nat} (he : 0 < e) (hA : ∀ c, T ≤ c → (A c ↔ e ∣ c)) : below A (upTo e T + 1) = below A T ++ [upTo e T] := by
  have h1 := upTo_ge (l := T) he
  have h2 := upTo_lt (l := T) he
  have h3 := upTo_dvd e T
  obtain ⟨k, hk⟩ := Nat.exists_eq_add_of_le h1
  rw [hk] at h2 h3 ⊢
  unfold below
  rw [Nat.add_assoc, List.range_add, List.filter_append, List.range_succ, List.map_append, List.filter_append]
  congr 1
  have e1 : ((List.range k).map fun x => T + x).filter (fun c => decide (A c)) = [] := by
    rw [List.filter_eq_nil_iff]
    intro c hc
    obtain ⟨x, hx, rfl⟩ := List.mem_map.mp hc
    have hx' := List.mem_range.mp hx
    rw [decide_eq_true_iff, hA _ (Nat.le_add_right _ _)]
    intro hd
    have h4 := Nat.dvd_sub h3 hd
    have h5 := Nat.le_of_dvd (by omega) h4
    omega
  have h6 : A (T + k) := (hA _ (Nat.le_add_right _ _)).mpr h3
  rw [e1, List.nil_append]
  show List.filter (fun c => decide (A c)) [T + k] = [T + k]
  rw [List.filter_cons, if_pos (decide_eq_true h6)]
  rfl
end
theorem TellsTo.le {A : Nat → Prop} : ∀ {b : Nat} {rs : List (Nat × Nat)} {x : Nat}, TellsTo A b rs x → b ≤ x ∧ ∀ r ∈ rs, r.1 ≤ x
  | b, [], x, h => ⟨Nat.le_of_eq h, fun r hr => absurd hr List.not_mem_nil⟩
  | b, (s, t) :: r, x, h => by
    obtain ⟨h1, h2⟩ := TellsTo.le h.2.2.2
    have h3 := Nat.le_mul_of_pos_right s h.2.1
    refine ⟨by omega, fun q hq => ?_⟩
    rcases List.mem_cons.mp hq with rfl | hq
    · show s ≤ x
      omega
    · exact h2 q hq
theorem cutEnd_sub (rs : List (Nat × Nat)) (e : Nat) : ∀ r ∈ cutEnd rs e, r ∈ rs := by
  intro r hr
  unfold cutEnd at hr
  split at hr
  · split at hr
    · exact (List.dropLast_sublist rs).subset hr
    · exact hr
  · exact hr
/-- a falling row that the text can read -/
structure FallOk (rs : List (Nat × Nat)) (e : Nat) : Prop where
  fall : Fall rs e
  small : ∀ r ∈ rs, r.1 ≤ 4294967296
  few : rs.length ≤ 1000
theorem Fall.at : ∀ {rs : List (Nat × Nat)} {e i s t : Nat}, Fall rs e → rs[i]? = some (s, t) → 0 < s ∧ 0 < t ∧ 0 < e ∧ nxt (rs.drop (i + 1)) e < s ∧ within (rs.drop (i + 1)) e s = true ∧ Fall (rs.drop (i + 1)) e
  | [], _, _, _, _, _, h => by simp at h
  | (a, b) :: r, e, 0, s, t, hf, h => by
    have h' : (a, b) = (s, t) := Option.some.inj h
    cases h'
    exact hf
  | _ :: r, e, i + 1, s, t, hf, h => Fall.at (rs := r) hf.2.2.2.2.2 h
def stp (rs : List (Nat × Nat)) (e : Nat) : List Nat := rs.map (·.1) ++ [e]
theorem stp_at : ∀ {rs : List (Nat × Nat)} {e i : Nat}, i ≤ rs.length → (stp rs e)[i]? = some (nxt (rs.drop i) e)
  | [], e, i, h => by
    have : i = 0 := by simpa using h
    subst this
    rfl
  | (s, t) :: r, e, 0, _ => rfl
  | _ :: r, e, i + 1, h => stp_at (rs := r) (Nat.le_of_succ_le_succ h)
theorem nxt_at {rs : List (Nat × Nat)} {e i s t : Nat} (h : rs[i]? = some (s, t)) : nxt (rs.drop i) e = s := by
  have hi := (List.getElem?_eq_some_iff.mp h).1
  rw [List.drop_eq_getElem_cons hi]
  have := (List.getElem?_eq_some_iff.mp h).2
  rw [this]
  rfl
end Bf
/-! Data, the shapes of promises, small words. -/
namespace Bf
open PySem PySem.Spec PyProof.Rows L2 RZ PpSet
open C8 (Cal Met Mak Def cal0 met0 mak0 pe_c pe_mk pe_mt pe_mt0 fnScope fnBody InsC call_isC tCut pss_cut)
open Evl (Ex ex_l ex_t ex_rd fresh_back sz_of sz_lt)
def topS (i : Nat) : Stmt := PySem.Challenge.pw_bodyforbody_k51_whole_agreeing_counts_ar.main.body.getD i (.Pass ⟨0, 0, 0, 0⟩)
/-! ### promises by the number of arguments -/
def sp0 (R : Hp → VK → Prop) : Sp := fun vs H Q _ => vs = [] ∧ R H Q
def sp1 (R : V → Hp → VK → Prop) : Sp := fun vs H Q _ => ∃ a, vs = [a] ∧ R a H Q
def sp2 (R : V → V → Hp → VK → Prop) : Sp := fun vs H Q _ => ∃ a b, vs = [a, b] ∧ R a b H Q
def sp3 (R : V → V → V → Hp → VK → Prop) : Sp := fun vs H Q _ => ∃ a b c, vs = [a, b, c] ∧ R a b c H Q
def sp4 (R : V → V → V → V → Hp → VK → Prop) : Sp := fun vs H Q _ => ∃ a b c d, vs = [a, b, c, d] ∧ R a b c d H Q
def sp5 (R : V → V → V → V → V → Hp → VK → Prop) : Sp := fun vs H Q _ => ∃ a b c d e, vs = [a, b, c, d, e] ∧ R a b c d e H Q
/-- a def of the module as it stands behind the top -/
structure DefB (K : PySem.W.Frag) (mg : Str → Option Value) (x : Str) (st : Stmt) (ps : List Str) : Prop where
  ex : ∃ f fd, Def K mg x st f fd ∧ Binds K fd ps [] ∧ fd.defaults = .none
/-- a method of the class at C -/
structure MetB (K : PySem.W.Frag) (C : Addr) (m qual : Str) (st : Stmt) (ps : List Str) : Prop where
  ex : ∃ f fd, Cls K C ∧ Meth K C m f ∧ C8.Fun K m qual st f fd ∧ Binds K fd ps []
/-- a class that is made by its name -/
structure MakB (K : PySem.W.Frag) (mg : Str → Option Value) (x qual : Str) (C : Addr) (st : Stmt) (ps : List Str) : Prop where
  ex : ∃ f fd, Mk K C f ∧ mg x = some (.ref C) ∧ C8.Fun K "__init__" qual st f fd ∧ Binds K fd ps []
section
variable {P : Program} {w : World} {K : PySem.W.Frag} {mg : Str → Option Value} {base : Heap} {x m qual : Str} {st : Stmt} {N ps : List Str} {k : Nat} {sp : Sp} {C : Addr}
/-- what a body must show -/
abbrev Body (P : Program) (w : World) (K : PySem.W.Frag) (mg : Str → Option Value) (base : Heap) (N : List Str) (x : Str) (st : Stmt) (k : Nat) (vs : List V) (H : Hp) (Q : VK) : Prop :=
  ∀ (f : Addr) (cdv : Value) (A : Around) (outer : List Env) (s : Shared) (E : XK), Room k (A.deeper (envOfC x (fnScope st) s.heap.objs.size f cdv)) →
    ∃ t, PSs (cxOf C8.CX0 P w K mg base N x (fnScope st) f cdv A outer s H E).nox (fnBody st) t ∧ t { nx := fun _ H' => Q .non H', rt := Q } (start N vs) H
theorem cal_of (d : DefB K mg x st ps) (S : FnScope N ps (fnScope st)) (len : ∀ vs H Q E, sp vs H Q E → vs.length = ps.length)
    (body : ∀ vs H Q E, sp vs H Q E → Body P w K mg base N x st k vs H Q) : Cal P w K mg base (k + 1) x sp [] := by
  obtain ⟨f, fd, D, b, _⟩ := d.ex
  exact cal0 D b .nil S len fun cdv A outer s H vs Q E hr h => body vs H Q E h f cdv A outer s E hr
/-- a def that is called by keywords too -/
structure CalD (P : Program) (w : World) (K : PySem.W.Frag) (mg : Str → Option Value) (base : Heap) (k : Nat) (x : Str) (st : Stmt) (ps : List Str) (sp : Sp) : Prop where
  ex : ∃ f fd, Def K mg x st f fd ∧ Binds K fd ps [] ∧ fd.defaults = .none ∧ FnOk P w K mg base C8.CX0 k f fd ps sp
theorem cald_of (d : DefB K mg x st ps) (S : FnScope N ps (fnScope st)) (len : ∀ vs H Q E, sp vs H Q E → vs.length = ps.length)
    (body : ∀ vs H Q E, sp vs H Q E → Body P w K mg base N x st k vs H Q) : CalD P w K mg base (k + 1) x st ps sp := by
  obtain ⟨f, fd, D, b, df⟩ := d.ex
  exact ⟨f, fd, D, b, df, C8.fn0 D.fn S len fun cdv A outer s H vs Q E hr h => body vs H Q E h f cdv A outer s E hr⟩
theorem CalD.kw {ks : List Str} {g : List Value → List Value} {gV : List V → List V} (c : CalD P w K mg base k x st ps sp)
    (kb : ∀ (kV doc pm : Value) (an : Option Addr) (cdv ct : Value) (ws : List Value), ws.length = ks.length → bindArgs (PySem.W.fnOf x x (C8.fnArgs st) (fnBody st) (fnScope st) .none kV doc pm an cdv ct) ⟨[], ks.zip ws⟩ = pure (ps.zip (g ws)))
    (rel : ∀ {zs : List V} {ws : List Value}, Vals zs ws → Vals (gV zs) (g ws)) (len : ∀ {zs : List V}, (gV zs).length = ps.length → zs.length = ks.length) : CalK P w K mg base k x sp ks g gV := by
  obtain ⟨f, fd, D, b, df, F⟩ := c.ex
  refine ⟨⟨f, fd, ps, F, D.mgf, D.kp, fun s ws hl => ?_⟩, rel, fun h => len (F.len _ _ _ _ h)⟩
  obtain ⟨oc, od, dV, kV, doc, pm, an, cdv, ct, osl, rfl, _, _⟩ := D.fn.ex
  have e : dV = .none := df
  subst e
  exact .of_eq (kb kV doc pm an cdv ct ws hl)
theorem met_of (d : MetB K C m qual st ps) (S : FnScope N ps (fnScope st)) (len : ∀ vs H Q E, sp vs H Q E → vs.length = ps.length)
    (body : ∀ vs H Q E, sp vs H Q E → Body P w K mg base N qual st k vs H Q) : Met P w K mg base (k + 1) C m sp [] := by
  obtain ⟨f, fd, c, me, F, b⟩ := d.ex
  exact met0 c me F b S len fun cdv A outer s H vs Q E hr h => body vs H Q E h f cdv A outer s E hr
theorem mak_of (d : MakB K mg x qual C st ps) (S : FnScope N ps (fnScope st)) (len : ∀ vs H Q E, sp vs H Q E → vs.length = ps.length)
    (body : ∀ vs H Q E, sp vs H Q E → Body P w K mg base N qual st k vs H Q) : Mak P w K mg base (k + 1) x C sp [] := by
  obtain ⟨f, fd, M, hm, F, b⟩ := d.ex
  exact mak0 M hm F b .nil S len fun cdv A outer s H vs Q E hr h => body vs H Q E h f cdv A outer s E hr
theorem len0 {R : Hp → VK → Prop} (vs : List V) (H : Hp) (Q : VK) (E : XK) (h : sp0 R vs H Q E) : vs.length = 0 := by rw [h.1]; rfl
theorem len1 {R : V → Hp → VK → Prop} (vs : List V) (H : Hp) (Q : VK) (E : XK) (h : sp1 R vs H Q E) : vs.length = 1 := by obtain ⟨a, rfl, _⟩ := h; rfl
theorem len2 {R : V → V → Hp → VK → Prop} (vs : List V) (H : Hp) (Q : VK) (E : XK) (h : sp2 R vs H Q E) : vs.length = 2 := by obtain ⟨a, b, rfl, _⟩ := h; rfl
theorem len3 {R : V → V → V → Hp → VK → Prop} (vs : List V) (H : Hp) (Q : VK) (E : XK) (h : sp3 R vs H Q E) : vs.length = 3 := by obtain ⟨a, b, c, rfl, _⟩ := h; rfl
theorem len4 {R : V → V → V → V → Hp → VK → Prop} (vs : List V) (H : Hp) (Q : VK) (E : XK) (h : sp4 R vs H Q E) : vs.length = 4 := by obtain ⟨a, b, c, d, rfl, _⟩ := h; rfl
theorem len5 {R : V → V → V → V → V → Hp → VK → Prop} (vs : List V) (H : Hp) (Q : VK) (E : XK) (h : sp5 R vs H Q E) : vs.length = 5 := by obtain ⟨a, b, c, d, e, rfl, _⟩ := h; rfl
end
/-! ### data -/
abbrev nv (xs : List Nat) : List V := xs.map fun (n : Nat) => V.int (n : Int)
theorem nv_get {xs : List Nat} {i : Nat} {n : Nat} (h : xs[i]? = some n) : (nv xs)[i]? = some (.int (n : Int)) := by rw [List.getElem?_map, h]; rfl
theorem nv_len (xs : List Nat) : (nv xs).length = xs.length := by rw [List.length_map]
theorem ex_at {H H' : Hp} {a : Addr} {o : HO} (e : Ex H H') (h : H a = some o) : H' a = some o := e a o h
theorem ex_new {H : Hp} {p : Addr} {o : HO} (h : H p = none) : Ex H (upd H p o) := Ex.new h
section
variable {K : PySem.W.Frag} {H H' : Hp} {a b : Addr} {xs ys : List V}
theorem tyL (h : SqL K H a xs) : TyX K H (.ref a) (.type "list") := by
  rcases h with (h | ⟨o, h⟩) | ⟨o, its, n, hk, hc, _⟩
  · exact .base (.lst h)
  · exact .base (.frz h)
  · exact .kList hk hc
theorem tyT (h : SqT K H a xs) : TyX K H (.ref a) (.type "tuple") := by
  rcases h with (h | ⟨o, h⟩) | ⟨o, its, n, hk, hc, _⟩
  · exact .base (.tup h)
  · exact .fTuple h
  · exact .kTuple hk hc
/-- a tuple stands where a list is changed -/
theorem tup_upd {o : HO} {zs : List V} (hl : H b = some (.lst zs)) (h : SqT K H a xs) : SqT K (upd H b o) a xs := by
  rcases h with (h | ⟨u, h⟩) | h
  · exact .inl (.inl (by rw [upd_ne (ne_of h hl (by intro z; cases z))]; exact h))
  · exact .inl (.inr ⟨u, by rw [upd_ne (ne_of h hl (by intro z; cases z))]; exact h⟩)
  · exact .inr h
end
/-! ### loops over enumerate -/
theorem for_enL {K : PySem.W.Frag} {a : Addr} {xs : List V} {g : TG} {tb : TS} {D : Ends} {σ : L2.St} {H : Hp} (Pv : Nat → L2.St → Hp → Prop) (h0 : Pv 0 σ H) (hl : ∀ i σ H, i ≤ xs.length → Pv i σ H → SqL K H a xs)
    (hs : ∀ (i : Nat) (x : V) (T : Addr) σ H, xs[i]? = some x → Pv i σ H → H T = none → g (.ref T) σ (upd H T (.tup [.int (i : Nat), x])) fun σ2 H2 => tb { D with nx := Pv (i + 1), ct := Pv (i + 1), bk := D.nx } σ2 H2) (hd : ∀ σ H, Pv xs.length σ H → D.nx σ H) :
    ∃ W : Nat → Nat → L2.St → Hp → Prop, (∃ m, W 0 m σ H) ∧ ∀ i m σ H, W i m σ H →
      ((Ite K a).stop i H ∧ D.nx σ H) ∨ ((Ite K a).go i H ∧ ∃ N : L2.St → Hp → Prop, (∀ σ' H', N σ' H' → ∃ m', m' < m ∧ W (i + 1) m' σ' H') ∧
        ∀ v H', (Ite K a).yld i H v H' → g v σ H' fun σ2 H2 => tb { D with nx := N, ct := N, bk := D.nx } σ2 H2) := by
  refine ⟨fun i m σ H => m = xs.length - i ∧ i ≤ xs.length ∧ Pv i σ H, ⟨xs.length, rfl, Nat.zero_le _, h0⟩, ?_⟩
  rintro i m σ H ⟨rfl, hi, p⟩
  have q := hl i σ H hi p
  by_cases hlt : i < xs.length
  · refine .inr ⟨⟨xs, xs[i], q, List.getElem?_eq_getElem hlt⟩, Pv (i + 1), fun σ' H' p' => ⟨xs.length - (i + 1), by omega, rfl, hlt, p'⟩, fun v H' y => ?_⟩
    obtain ⟨T, x, rfl, hT, rfl, hx⟩ := y
    exact hs i x T σ H (hx xs q) p hT
  · have e : i = xs.length := by omega
    subst e
    exact .inl ⟨⟨xs, q, Nat.le_refl _⟩, hd σ H p⟩
theorem for_enT {K : PySem.W.Frag} {a : Addr} {xs : List V} {g : TG} {tb : TS} {D : Ends} {σ : L2.St} {H : Hp} (Pv : Nat → L2.St → Hp → Prop) (h0 : Pv 0 σ H) (hl : ∀ i σ H, i ≤ xs.length → Pv i σ H → SqT K H a xs)
    (hs : ∀ (i : Nat) (x : V) (T : Addr) σ H, xs[i]? = some x → Pv i σ H → H T = none → g (.ref T) σ (upd H T (.tup [.int (i : Nat), x])) fun σ2 H2 => tb { D with nx := Pv (i + 1), ct := Pv (i + 1), bk := D.nx } σ2 H2) (hd : ∀ σ H, Pv xs.length σ H → D.nx σ H) :
    ∃ W : Nat → Nat → L2.St → Hp → Prop, (∃ m, W 0 m σ H) ∧ ∀ i m σ H, W i m σ H →
      ((IteT K a).stop i H ∧ D.nx σ H) ∨ ((IteT K a).go i H ∧ ∃ N : L2.St → Hp → Prop, (∀ σ' H', N σ' H' → ∃ m', m' < m ∧ W (i + 1) m' σ' H') ∧
        ∀ v H', (IteT K a).yld i H v H' → g v σ H' fun σ2 H2 => tb { D with nx := N, ct := N, bk := D.nx } σ2 H2) := by
  refine ⟨fun i m σ H => m = xs.length - i ∧ i ≤ xs.length ∧ Pv i σ H, ⟨xs.length, rfl, Nat.zero_le _, h0⟩, ?_⟩
  rintro i m σ H ⟨rfl, hi, p⟩
  have q := hl i σ H hi p
  by_cases hlt : i < xs.length
  · refine .inr ⟨⟨xs, xs[i], q, List.getElem?_eq_getElem hlt⟩, Pv (i + 1), fun σ' H' p' => ⟨xs.length - (i + 1), by omega, rfl, hlt, p'⟩, fun v H' y => ?_⟩
    obtain ⟨T, x, rfl, hT, rfl, hx⟩ := y
    exact hs i x T σ H (hx xs q) p hT
  · have e : i = xs.length := by omega
    subst e
    exact .inl ⟨⟨xs, q, Nat.le_refl _⟩, hd σ H p⟩
/-! ### all objects but one stand -/
def ExB (D : Addr) (H H' : Hp) : Prop := ∀ a o, a ≠ D → H a = some o → H' a = some o
section
variable {K : PySem.W.Frag} {H H' H2 : Hp} {a b D : Addr} {xs ys zs : List V} {o : HO}
theorem exB_of (e : Ex H H') : ExB D H H' := fun a o _ h => e a o h
theorem exB_upd : ExB D H (upd H D o) := fun a u n h => by rw [upd_ne n]; exact h
theorem ExB.trans (e : ExB D H H') (f : ExB D H' H2) : ExB D H H2 := fun a o n h => f a o n (e a o n h)
theorem exB_t (hD : H D = some (.lst zs)) (e : ExB D H H') (h : SqT K H a xs) : SqT K H' a xs := by
  rcases h with (h | ⟨u, h⟩) | h
  · exact .inl (.inl (e _ _ (ne_of h hD (by intro z; cases z)) h))
  · exact .inl (.inr ⟨u, e _ _ (ne_of h hD (by intro z; cases z)) h⟩)
  · exact .inr h
theorem exB_ins {C dx : Addr} {fs : List (Str × V)} (hD : H D = some (.ins C dx fs)) (e : ExB D H H') : (∀ {a xs}, SqT K H a xs → SqT K H' a xs) ∧ ∀ {a xs}, SqL K H a xs → SqL K H' a xs := by
  refine ⟨fun {a xs} h => ?_, fun {a xs} h => ?_⟩
  · rcases h with (h | ⟨u, h⟩) | h
    · exact .inl (.inl (e _ _ (ne_of h hD (by intro z; cases z)) h))
    · exact .inl (.inr ⟨u, e _ _ (ne_of h hD (by intro z; cases z)) h⟩)
    · exact .inr h
  · rcases h with (h | ⟨u, h⟩) | h
    · exact .inl (.inl (e _ _ (ne_of h hD (by intro z; cases z)) h))
    · exact .inl (.inr ⟨u, e _ _ (ne_of h hD (by intro z; cases z)) h⟩)
    · exact .inr h
theorem exB_ex (hD : H D = none) (e : ExB D H H') : Ex H H' := fun a o h => e a o (ne_of_none h hD) h
theorem ex_mut (e : Ex H H') (hD : H D = none) : Ex H (upd H' D o) := e.mut hD
end
/-! ### comprehensions: what stands in the new list behind each turn -/
section
variable {K : PySem.W.Frag} {a D : Addr} {xs : List V} {g : TG} {tt : TT} {te : TE} {vs : List Nat} {σ : L2.St} {H1 : Hp} {Qd : Hp → Prop}
def Cmp (H1 : Hp) (D : Addr) (Pv : Nat → List V → Hp → Prop) (i : Nat) (H : Hp) : Prop := ∃ acc : List V, Ex H1 H ∧ H D = some (.lst acc) ∧ acc.length ≤ i ∧ Pv i acc H
/-- one turn -/
def CTurn (H1 : Hp) (D : Addr) (Pv : Nat → List V → Hp → Prop) (g : TG) (tt : TT) (te : TE) (vs : List Nat) (σ : L2.St) (i : Nat) (x : V) : Prop :=
  ∀ (acc : List V) (H : Hp) (QF : Hp → Prop) (QT : V → Hp → Prop), Ex H1 H → H D = some (.lst acc) → Pv i acc H →
    (∀ H3, Ex H H3 → Pv (i + 1) acc H3 → QF H3) → (∀ y H4, Ex H H4 → Pv (i + 1) (acc ++ [y]) H4 → QT y H4) →
    g x (wipe σ vs) H fun σ2 H2 => wipe σ2 vs = wipe σ vs ∧ tt σ2 H2 fun b H3 => if b = true then te σ2 H3 QT else QF H3
/-- the word does not hang on the list that grows -/
def Steady (D : Addr) (Pv : Nat → List V → Hp → Prop) : Prop := ∀ i acc zs zs' H, H D = some (.lst zs) → Pv i acc H → Pv i acc (upd H D (.lst zs'))
theorem cturn_use {Pv : Nat → List V → Hp → Prop} (st : Steady D Pv) (hD : H1 D = none) {i : Nat} {x : V} (hi : i < 100000) (t : CTurn H1 D Pv g tt te vs σ i x) {H : Hp} (c : Cmp H1 D Pv i H) :
    g x (wipe σ vs) H fun σ2 H2 => wipe σ2 vs = wipe σ vs ∧ tt σ2 H2 fun b H3 =>
      if b = true then te σ2 H3 fun y H4 => ∃ acc, H4 D = some (.lst acc) ∧ acc.length < sizeLine ∧ Cmp H1 D Pv (i + 1) (upd H4 D (.lst (acc ++ [y]))) else Cmp H1 D Pv (i + 1) H3 := by
  obtain ⟨acc, e, hd, hl, p⟩ := c
  refine t acc H _ _ e hd p (fun H3 e3 p3 => ⟨acc, e.trans e3, e3 _ _ hd, Nat.le_succ_of_le hl, p3⟩) fun y H4 e4 p4 => ⟨acc, e4 _ _ hd, sz_lt (by omega), acc ++ [y], ex_mut (e.trans e4) hD, upd_same, ?_, st _ _ _ _ _ (e4 _ _ hd) p4⟩
  rw [List.length_append]
  exact Nat.succ_le_succ hl
variable (Pv : Nat → List V → Hp → Prop) (st : Steady D Pv) (hD : H1 D = none) (h0 : Pv 0 [] (upd H1 D (.lst [])))
include st hD h0
theorem cmL (hx : SqL K H1 a xs) (hz : xs.length ≤ 50000) (hs : ∀ i x, xs[i]? = some x → CTurn H1 D Pv g tt te vs σ i x)
    (hd : ∀ acc H, Ex H1 H → H D = some (.lst acc) → Pv xs.length acc H → Qd H) :
    ∃ W : Nat → Nat → Hp → Prop, (∃ m, W 0 m (upd H1 D (.lst []))) ∧ ∀ i m H, W i m H →
      ((Itl K a).stop i H ∧ Qd H) ∨ ((Itl K a).go i H ∧ ∃ Nx : Hp → Prop, (∀ H', Nx H' → ∃ m', m' < m ∧ W (i + 1) m' H') ∧ ∀ x H', (Itl K a).yld i H x H' →
        g x (wipe σ vs) H' fun σ2 H2 => wipe σ2 vs = wipe σ vs ∧ tt σ2 H2 fun b H3 => if b = true then te σ2 H3 fun y H4 => ∃ acc, H4 D = some (.lst acc) ∧ acc.length < sizeLine ∧ Nx (upd H4 D (.lst (acc ++ [y]))) else Nx H3) :=
  lc_list (xs := xs) (Cmp H1 D Pv) ⟨[], ex_new hD, upd_same, Nat.le_refl _, h0⟩ (fun i H _ c => ex_l c.choose_spec.1 hx)
    (fun i x H hi c => cturn_use st hD (by have := (List.getElem?_eq_some_iff.mp hi).1; omega) (hs i x hi) c) fun H ⟨acc, e, hd', _, p⟩ => hd acc H e hd' p
theorem cmT (hx : SqT K H1 a xs) (hz : xs.length ≤ 50000) (hs : ∀ i x, xs[i]? = some x → CTurn H1 D Pv g tt te vs σ i x)
    (hd : ∀ acc H, Ex H1 H → H D = some (.lst acc) → Pv xs.length acc H → Qd H) :
    ∃ W : Nat → Nat → Hp → Prop, (∃ m, W 0 m (upd H1 D (.lst []))) ∧ ∀ i m H, W i m H →
      ((Itt K a).stop i H ∧ Qd H) ∨ ((Itt K a).go i H ∧ ∃ Nx : Hp → Prop, (∀ H', Nx H' → ∃ m', m' < m ∧ W (i + 1) m' H') ∧ ∀ x H', (Itt K a).yld i H x H' →
        g x (wipe σ vs) H' fun σ2 H2 => wipe σ2 vs = wipe σ vs ∧ tt σ2 H2 fun b H3 => if b = true then te σ2 H3 fun y H4 => ∃ acc, H4 D = some (.lst acc) ∧ acc.length < sizeLine ∧ Nx (upd H4 D (.lst (acc ++ [y]))) else Nx H3) :=
  lc_tup (xs := xs) (Cmp H1 D Pv) ⟨[], ex_new hD, upd_same, Nat.le_refl _, h0⟩ (fun i H _ c => ex_t c.choose_spec.1 hx)
    (fun i x H hi c => cturn_use st hD (by have := (List.getElem?_eq_some_iff.mp hi).1; omega) (hs i x hi) c) fun H ⟨acc, e, hd', _, p⟩ => hd acc H e hd' p
theorem cmR {n : Nat} (hz : n ≤ 50000) (hs : ∀ i, i < n → CTurn H1 D Pv g tt te vs σ i (.int (i : Int)))
    (hd : ∀ acc H, Ex H1 H → H D = some (.lst acc) → Pv n acc H → Qd H) :
    ∃ W : Nat → Nat → Hp → Prop, (∃ m, W 0 m (upd H1 D (.lst []))) ∧ ∀ i m H, W i m H →
      ((Itr 0 n).stop i H ∧ Qd H) ∨ ((Itr 0 n).go i H ∧ ∃ Nx : Hp → Prop, (∀ H', Nx H' → ∃ m', m' < m ∧ W (i + 1) m' H') ∧ ∀ x H', (Itr 0 n).yld i H x H' →
        g x (wipe σ vs) H' fun σ2 H2 => wipe σ2 vs = wipe σ vs ∧ tt σ2 H2 fun b H3 => if b = true then te σ2 H3 fun y H4 => ∃ acc, H4 D = some (.lst acc) ∧ acc.length < sizeLine ∧ Nx (upd H4 D (.lst (acc ++ [y]))) else Nx H3) :=
  lc_rng (Cmp H1 D Pv) ⟨[], ex_new hD, upd_same, Nat.le_refl _, h0⟩ (fun i H hi c => cturn_use st hD (by omega) (hs i hi) c) fun H ⟨acc, e, hd', _, p⟩ => hd acc H e hd' p
end
/-- a word of values alone -/
theorem steady_val {D : Addr} (F : Nat → List V → Prop) : Steady D (fun i acc _ => F i acc) := fun _ _ _ _ _ _ p => p
/-! ### lists of tuples of numbers -/
/-- vs are tuples that hold these numbers -/
def Tups (K : PySem.W.Frag) (H : Hp) (vs : List V) (xss : List (List Nat)) : Prop := vs.length = xss.length ∧ ∀ (i : Nat) (xs : List Nat), xss[i]? = some xs → ∃ p : Addr, vs[i]? = some (V.ref p) ∧ SqT K H p (nv xs)
/-- .. lists or tuples -/
def Seqs (K : PySem.W.Frag) (H : Hp) (vs : List V) (xss : List (List Nat)) : Prop := vs.length = xss.length ∧ ∀ (i : Nat) (xs : List Nat), xss[i]? = some xs → ∃ p : Addr, vs[i]? = some (V.ref p) ∧ (SqL K H p (nv xs) ∨ SqT K H p (nv xs))
section
variable {K : PySem.W.Frag} {H H' : Hp} {vs : List V} {xss : List (List Nat)} {xs : List Nat} {D p : Addr} {zs : List V}
theorem Tups.ex (t : Tups K H vs xss) (e : Ex H H') : Tups K H' vs xss := ⟨t.1, fun i xs h => let ⟨p, h1, h2⟩ := t.2 i xs h; ⟨p, h1, ex_t e h2⟩⟩
theorem Seqs.ex (t : Seqs K H vs xss) (e : Ex H H') : Seqs K H' vs xss := ⟨t.1, fun i xs h => let ⟨p, h1, h2⟩ := t.2 i xs h; ⟨p, h1, h2.elim (fun z => .inl (ex_l e z)) fun z => .inr (ex_t e z)⟩⟩
theorem Tups.upd {o : HO} (t : Tups K H vs xss) (hD : H D = some (.lst zs)) : Tups K (upd H D o) vs xss := ⟨t.1, fun i xs h => let ⟨p, h1, h2⟩ := t.2 i xs h; ⟨p, h1, tup_upd hD h2⟩⟩
theorem Tups.nil : Tups K H [] [] := ⟨rfl, fun i xs h => by simp at h⟩
theorem Tups.snoc (t : Tups K H vs xss) (h : SqT K H p (nv xs)) : Tups K H (vs ++ [V.ref p]) (xss ++ [xs]) := by
  refine ⟨by rw [List.length_append, List.length_append, t.1] <;> rfl, fun i ys hi => ?_⟩
  by_cases hl : i < xss.length
  · rw [List.getElem?_append_left hl] at hi
    obtain ⟨q, h1, h2⟩ := t.2 i ys hi
    exact ⟨q, by rw [List.getElem?_append_left (by rw [t.1]; exact hl)]; exact h1, h2⟩
  · have hb := (List.getElem?_eq_some_iff.mp hi).1
    rw [List.length_append, List.length_singleton] at hb
    have e : i = xss.length := by omega
    subst e
    rw [List.getElem?_append_right (Nat.le_refl _), Nat.sub_self] at hi
    cases hi
    exact ⟨p, by rw [List.getElem?_append_right (by rw [t.1]; exact Nat.le_refl _), ← t.1, Nat.sub_self]; rfl, h⟩
theorem Tups.seqs (t : Tups K H vs xss) : Seqs K H vs xss := ⟨t.1, fun i xs h => let ⟨p, h1, h2⟩ := t.2 i xs h; ⟨p, h1, .inr h2⟩⟩
end
/-! ### machines -/
def mf (c n : Nat) (sp fd : Addr) : List (Str × V) := putF "_found" (.ref fd) (putF "steps" (.ref sp) (putF "states" (.int (n : Int)) (putF "commands" (.int (c : Int)) [])))
section
variable {c n : Nat} {sp fd : Addr}
theorem mf_steps : (mf c n sp fd).lookup ("steps" : Str) = some (.ref sp) := by
  unfold mf
  rw [lookup_putF, if_neg (by decide +kernel), lookup_putF, if_pos rfl]
theorem mf_states : (mf c n sp fd).lookup ("states" : Str) = some (.int (n : Int)) := by
  unfold mf
  rw [lookup_putF, if_neg (by decide +kernel), lookup_putF, if_neg (by decide +kernel), lookup_putF, if_pos rfl]
theorem mf_commands : (mf c n sp fd).lookup ("commands" : Str) = some (.int (c : Int)) := by
  unfold mf
  rw [lookup_putF, if_neg (by decide +kernel), lookup_putF, if_neg (by decide +kernel), lookup_putF, if_neg (by decide +kernel), lookup_putF, if_pos rfl]
theorem mf_no {m : Str} (h1 : ¬ m = ("_found" : Str)) (h2 : ¬ m = ("steps" : Str)) (h3 : ¬ m = ("states" : Str)) (h4 : ¬ m = ("commands" : Str)) : (mf c n sp fd).lookup m = none := by
  unfold mf
  rw [lookup_putF, if_neg h1, lookup_putF, if_neg h2, lookup_putF, if_neg h3, lookup_putF, if_neg h4] <;> rfl
end
/-- what the text's class Machine must be -/
structure Mx (K : PySem.W.Frag) (mg : Str → Option Value) (CM : Addr) : Prop where
  cl : Cls K CM
  nC : NoAttr K CM "commands"
  nT : NoAttr K CM "states"
  nS : NoAttr K CM "steps"
  nF : NoAttr K CM "_found"
  mgMachine : mg "Machine" = some (.ref CM)
/-- at m a machine with so many commands and these rows of next states -/
def Mach (K : PySem.W.Frag) (CM : Addr) (H : Hp) (m : Addr) (c : Nat) (rows : List (List Nat)) : Prop :=
  ∃ dx sp fd vs, H m = some (.ins CM dx (mf c rows.length sp fd)) ∧ SqT K H sp vs ∧ Tups K H vs rows
theorem Mach.ex {K : PySem.W.Frag} {CM : Addr} {H H' : Hp} {m : Addr} {c : Nat} {rows : List (List Nat)} (t : Mach K CM H m c rows) (e : Ex H H') : Mach K CM H' m c rows :=
  let ⟨dx, sp, fd, vs, h1, h2, h3⟩ := t; ⟨dx, sp, fd, vs, e _ _ h1, ex_t e h2, h3.ex e⟩
/-! ### == of tuples and lists of numbers -/
def nD (xs : List Nat) : List PyData := xs.map fun (n : Nat) => PyData.int (n : Int)
theorem dpN {K : PySem.W.Frag} {H : Hp} : ∀ xs : List Nat, DpAll K H (nv xs) (nD xs)
  | [] => .nil
  | x :: xs => .cons (.int _) (dpN xs)
theorem canN : ∀ xs : List Nat, PyData.canLayAll0 (nD xs) = true
  | [] => rfl
  | x :: xs => by
    show (PyData.canLay0 (.int (x : Int)) && PyData.canLayAll0 (nD xs)) = true
    rw [canN xs]
    rfl
theorem depN : ∀ xs : List Nat, PyData.depthAll (nD xs) = 0
  | [] => rfl
  | x :: xs => by
    show max (PyData.depth (.int (x : Int))) (PyData.depthAll (nD xs)) = 0
    rw [depN xs]
    rfl
theorem eqN : ∀ xs ys : List Nat, PyData.eqvAll (nD xs) (nD ys) = decide (xs = ys)
  | [], [] => rfl
  | [], _ :: _ => rfl
  | _ :: _, [] => rfl
  | x :: xs, y :: ys => by
    show ((x : Int) == (y : Int) && PyData.eqvAll (nD xs) (nD ys)) = decide (x :: xs = y :: ys)
    rw [eqN xs ys]
    by_cases h : x = y
    · subst h
      by_cases h2 : xs = ys
      · subst h2
        simp
      · simp [h2]
    · have h' : ¬ ((x : Int) = (y : Int)) := by omega
      simp [h, h']
theorem shT (xs : List Nat) : SeqAt.shaped (.tuple (nD xs)) = true := by
  show (PyData.canLayAll0 (nD xs) && decide (PyData.depthAll (nD xs) + 1 ≤ 64)) = true
  rw [canN, depN]
  rfl
theorem shL (xs : List Nat) : SeqAt.shaped (.list (nD xs)) = true := by
  show (PyData.canLayAll0 (nD xs) && decide (PyData.depthAll (nD xs) + 1 ≤ 64)) = true
  rw [canN, depN]
  rfl
section
variable {K : PySem.W.Frag} {H : Hp} {a b : Addr} {xs ys : List Nat} {Q : VK}
theorem rdEqT (ha : SqT K H a (nv xs)) (hb : SqT K H b (nv ys)) (q : Q (.bl (decide (xs = ys))) H) : rEqD K (.ref a) (.ref b) H Q :=
  ⟨.tuple (nD xs), .tuple (nD ys), .tup ha (dpN xs), .tup hb (dpN ys), shT xs, shT ys, by show Q (.bl (PyData.eqvAll (nD xs) (nD ys))) H; rw [eqN]; exact q⟩
theorem rdEqL (ha : SqL K H a (nv xs)) (hb : SqL K H b (nv ys)) (q : Q (.bl (decide (xs = ys))) H) : rEqD K (.ref a) (.ref b) H Q :=
  ⟨.list (nD xs), .list (nD ys), .lst ha (dpN xs), .lst hb (dpN ys), shL xs, shL ys, by show Q (.bl (PyData.eqvAll (nD xs) (nD ys))) H; rw [eqN]; exact q⟩
theorem rdNeT (ha : SqT K H a (nv xs)) (hb : SqT K H b (nv ys)) (q : Q (.bl (!decide (xs = ys))) H) : rNeD K (.ref a) (.ref b) H Q :=
  ⟨.tuple (nD xs), .tuple (nD ys), .tup ha (dpN xs), .tup hb (dpN ys), shT xs, shT ys, by show Q (.bl (!PyData.eqvAll (nD xs) (nD ys))) H; rw [eqN]; exact q⟩
theorem rdNeL (ha : SqL K H a (nv xs)) (hb : SqL K H b (nv ys)) (q : Q (.bl (!decide (xs = ys))) H) : rNeD K (.ref a) (.ref b) H Q :=
  ⟨.list (nD xs), .list (nD ys), .lst ha (dpN xs), .lst hb (dpN ys), shL xs, shL ys, by show Q (.bl (!PyData.eqvAll (nD xs) (nD ys))) H; rw [eqN]; exact q⟩
end
end Bf
namespace Bf
open PySem PySem.Spec PyProof.Rows L2 RZ PpSet
open C8 (Cal Met Mak Def cal0 met0 mak0 pe_c pe_mk pe_mt pe_mt0 fnScope fnBody InsC call_isC tCut pss_cut)
open Evl (Ex ex_l ex_t ex_rd fresh_back sz_of sz_lt)
section
variable {P : Program} {w : World} {K : PySem.W.Frag} {mg : Str → Option Value} {base : Heap}
/-! ### plain -/
abbrev s_is_integer : Stmt := topS 8
abbrev N_is_integer : List Str := ["value"]
theorem sc_is_integer : FnScope N_is_integer ["value"] (fnScope s_is_integer) := ⟨rfl, rfl, rfl, by decide +kernel, rfl, by decide +kernel, by decide +kernel⟩
def spInteger : Sp := sp1 fun x H Q => ∃ n : Int, x = .int n ∧ Q (.bl true) H
theorem c_is_integer (d : DefB K mg "is_integer" s_is_integer ["value"]) (Z : Zb mg) : Cal P w K mg base 1 "is_integer" spInteger [] := by
  refine cal_of d sc_is_integer len1 fun vs H Q E h f cdv A outer s E' hr => ?_
  obtain ⟨x, rfl, n, rfl, q⟩ := h
  refine ⟨_, (pss_one (ps_ret (pe_and (pe_callB (call_isiK1 K) (by rfl) Z.isinstance (by decide +kernel) (pa_cons (pv 0) (pa_cons (pe_bltn (v := .ty "int") rfl Z.int_ (by decide +kernel) rfl) pa_nil))) (pe_one (pe_not (pe_callB (call_isiK1 K) (by rfl) Z.isinstance (by decide +kernel) (pa_cons (pv 0) (pa_cons (pe_bltn (v := .ty "bool") rfl Z.bool (by decide +kernel) rfl) pa_nil)))))))), ?_⟩
  refine ⟨_, rfl, _, _, _, _, true, rfl, .ty "int", .base (.int n), kit_ty (by decide +kernel), true, rfl, ?_⟩
  exact ⟨_, rfl, _, _, _, _, false, rfl, .ty "bool", .base (.int n), kit_ty (by decide +kernel), false, rfl, q⟩
abbrev s_is_number : Stmt := topS 9
abbrev N_is_number : List Str := ["value"]
theorem sc_is_number : FnScope N_is_number ["value"] (fnScope s_is_number) := ⟨rfl, rfl, rfl, by decide +kernel, rfl, by decide +kernel, by decide +kernel⟩
def spNumber : Sp := sp1 fun x H Q => ∃ n : Nat, x = .int n ∧ Q (.bl true) H
theorem c_is_number (d : DefB K mg "is_number" s_is_number ["value"]) (Z : Zb mg) (c_is_integer : Cal P w K mg base 1 "is_integer" spInteger []) : Cal P w K mg base 2 "is_number" spNumber [] := by
  refine cal_of d sc_is_number len1 fun vs H Q E h f cdv A outer s E' hr => ?_
  obtain ⟨x, rfl, n, rfl, q⟩ := h
  refine ⟨_, (pss_one (ps_ret (pe_and (pe_c c_is_integer hr (by decide) (by rfl) (pa_cons (pv 0) pa_nil)) (pe_one (pe_cmpR op_ge (pv 0) pe_int (nomark _)))))), ?_⟩
  refine ⟨_, rfl, _, rfl, n, rfl, true, rfl, _, rfl, n, 0, rfl, rfl, ?_⟩
  show Q (.bl (decide ((0 : Int) ≤ (n : Int)))) H
  rw [decide_eq_true (by omega)]
  exact q
abbrev s_is_index : Stmt := topS 10
abbrev N_is_index : List Str := ["value", "many"]
theorem sc_is_index : FnScope N_is_index ["value", "many"] (fnScope s_is_index) := ⟨rfl, rfl, rfl, by decide +kernel, rfl, by decide +kernel, by decide +kernel⟩
def spIndex : Sp := sp2 fun x y H Q => ∃ n m : Nat, x = .int n ∧ y = .int m ∧ n < m ∧ Q (.bl true) H
theorem c_is_index (d : DefB K mg "is_index" s_is_index ["value", "many"]) (Z : Zb mg) (c_is_number : Cal P w K mg base 2 "is_number" spNumber []) : Cal P w K mg base 3 "is_index" spIndex [] := by
  refine cal_of d sc_is_index len2 fun vs H Q E h f cdv A outer s E' hr => ?_
  obtain ⟨x, y, rfl, n, m, rfl, rfl, hl, q⟩ := h
  refine ⟨_, (pss_one (ps_ret (pe_and (pe_c c_is_number hr (by decide) (by rfl) (pa_cons (pv 0) pa_nil)) (pe_one (pe_cmpR op_lt (pv 0) (pv 1) (nomark _)))))), ?_⟩
  refine ⟨_, rfl, _, rfl, n, rfl, true, rfl, _, rfl, _, rfl, n, m, rfl, rfl, ?_⟩
  show Q (.bl (decide ((n : Int) < (m : Int)))) H
  rw [decide_eq_true (by omega)]
  exact q
abbrev s_is_sequence : Stmt := topS 11
abbrev N_is_sequence : List Str := ["value"]
theorem sc_is_sequence : FnScope N_is_sequence ["value"] (fnScope s_is_sequence) := ⟨rfl, rfl, rfl, by decide +kernel, rfl, by decide +kernel, by decide +kernel⟩
def spSequence (K : PySem.W.Frag) : Sp := sp1 fun x H Q => ∃ a xs, x = .ref a ∧ (SqL K H a xs ∨ SqT K H a xs) ∧ ∀ H', Ex H H' → Q (.bl true) H'
theorem c_is_sequence (d : DefB K mg "is_sequence" s_is_sequence ["value"]) (Z : Zb mg) : Cal P w K mg base 1 "is_sequence" (spSequence K) [] := by
  refine cal_of d sc_is_sequence len1 fun vs H Q E h f cdv A outer s E' hr => ?_
  obtain ⟨x, rfl, a, xs, rfl, hx, q⟩ := h
  refine ⟨_, (pss_one (ps_ret (pe_callB (call_isiTK K) (by rfl) Z.isinstance (by decide +kernel) (pa_cons (pv 0) (pa_cons (pe_tup (pa_cons (pe_bltn (v := .ty "list") rfl Z.list_ (by decide +kernel) rfl) (pa_cons (pe_bltn (v := .ty "tuple") rfl Z.tuple_ (by decide +kernel) rfl) pa_nil))) pa_nil))))), ?_⟩
  refine ⟨_, rfl, (by show 2 ≤ sizeLine; decide), fun p hp => ?_⟩
  have e := ex_new (o := .tup [.ty "list", .ty "tuple"]) hp
  have ok : Paired ClsV [V.ty "list", V.ty "tuple"] [Value.type "list", Value.type "tuple"] := .cons (.ty _) (.cons (.ty _) .nil)
  rcases hx with hx | hx
  · exact ⟨_, p, _, _, _, true, rfl, upd_same, ok, tyL (ex_l e hx), kitAny_cons (b := true) (kit_ty (by decide +kernel)) (fun z => nomatch z) (fun _ => rfl), q _ e⟩
  · exact ⟨_, p, _, _, _, true, rfl, upd_same, ok, tyT (ex_t e hx), kitAny_cons (b := false) (kit_ty (by decide +kernel)) (fun _ => kitAny_cons (b := true) (kit_ty (by decide +kernel)) (fun z => nomatch z) (fun _ => rfl)) (fun z => nomatch z), q _ e⟩
abbrev s_common_divisor : Stmt := topS 12
abbrev N_common_divisor : List Str := ["one", "other"]
theorem sc_common_divisor : FnScope N_common_divisor ["one", "other"] (fnScope s_common_divisor) := ⟨rfl, rfl, rfl, by decide +kernel, rfl, by decide +kernel, by decide +kernel⟩
def spDivisor : Sp := sp2 fun x y H Q => ∃ n m : Nat, x = .int n ∧ y = .int m ∧ Q (.int (Nat.gcd n m : Nat)) H
theorem c_common_divisor (d : DefB K mg "common_divisor" s_common_divisor ["one", "other"]) (Z : Zb mg) : Cal P w K mg base 1 "common_divisor" spDivisor [] := by
  refine cal_of d sc_common_divisor len2 fun vs H Q E h f cdv A outer s E' hr => ?_
  obtain ⟨x, y, rfl, n, m, rfl, rfl, q⟩ := h
  refine ⟨_, (pss_cons (ps_while PassesOwn.never (pt_cmpR on_ne (pv 1) pe_int (nomark _))
        (pss_one (ps_par (i := 0) (j := 1) (by rfl) sc_common_divisor.nd rfl rfl (by decide) rfl rfl (pa_cons (pv 1) (pa_cons (pe_op on_mod (pv 0) (pv 1)) pa_nil)) (by rfl))))
      (pss_one (ps_ret (pv 0)))), ?_⟩
  refine ⟨fun j σ H' => ∃ a : Nat, σ = [some (.int a), some (.int j)] ∧ H' = H ∧ Nat.gcd a j = Nat.gcd n m, ⟨m, n, rfl, rfl, rfl⟩, ?_⟩
  rintro j σ H' ⟨a, rfl, rfl, hg⟩
  refine ⟨_, rfl, j, 0, rfl, rfl, _, rfl, ?_⟩
  by_cases hj : j = 0
  · subst hj
    rw [Nat.gcd_zero_right] at hg
    subst hg
    exact iteF ⟨_, rfl, q⟩
  · rw [decide_eq_false hj]
    refine iteT ⟨fun σ' H'' => σ' = [some (.int j), some (.int (a % j : Nat))] ∧ H'' = H', fun σ' H'' hn => ⟨a % j, Nat.mod_lt _ (Nat.pos_of_ne_zero hj), j, hn.1, hn.2, ?_⟩, ?_⟩
    · rw [← hg, Nat.gcd_comm a j, Nat.gcd_rec j a, Nat.gcd_comm]
    · exact ⟨_, rfl, _, rfl, _, rfl, a, j, rfl, rfl, by omega, _, _, rfl, rfl, rfl⟩
abbrev s_common_multiple : Stmt := topS 13
abbrev N_common_multiple : List Str := ["one", "other"]
theorem sc_common_multiple : FnScope N_common_multiple ["one", "other"] (fnScope s_common_multiple) := ⟨rfl, rfl, rfl, by decide +kernel, rfl, by decide +kernel, by decide +kernel⟩
def spMultiple : Sp := sp2 fun x y H Q => ∃ n m : Nat, x = .int n ∧ y = .int m ∧ 0 < n ∧ 0 < m ∧ n ≤ 1000000 ∧ m ≤ 1000000 ∧ Q (.int (Nat.lcm n m : Nat)) H
theorem c_common_multiple (d : DefB K mg "common_multiple" s_common_multiple ["one", "other"]) (Z : Zb mg) (c_common_divisor : Cal P w K mg base 1 "common_divisor" spDivisor []) : Cal P w K mg base 2 "common_multiple" spMultiple [] := by
  refine cal_of d sc_common_multiple len2 fun vs H Q E h f cdv A outer s E' hr => ?_
  obtain ⟨x, y, rfl, n, m, rfl, rfl, hn, hm, bn, bm, q⟩ := h
  refine ⟨_, (pss_one (ps_ret (pe_op on_mul (pe_op on_fdiv (pv 0) (pe_c c_common_divisor hr (by decide) (by rfl) (pa_cons (pv 0) (pa_cons (pv 1) pa_nil)))) (pv 1)))), ?_⟩
  have g0 : 0 < Nat.gcd n m := Nat.gcd_pos_of_pos_left _ hn
  have gn : Nat.gcd n m ≤ n := Nat.gcd_le_left _ hn
  refine ⟨_, rfl, _, rfl, _, rfl, _, _, rfl, n, m, rfl, rfl, n, Nat.gcd n m, rfl, rfl, ⟨by omega, by omega⟩, _, rfl, n / Nat.gcd n m, m, rfl, rfl, .inr (by omega), ?_⟩
  have e : n / Nat.gcd n m * m = Nat.lcm n m := by
    unfold Nat.lcm
    rw [Nat.mul_comm n m, Nat.mul_div_assoc _ (Nat.gcd_dvd_left n m), Nat.mul_comm]
  show Q (.int ((n / Nat.gcd n m * m : Nat) : Int)) H
  rw [e]
  exact q
end
end Bf
namespace Bf
open PySem PySem.Spec PyProof.Rows L2 RZ PpSet
open C8 (Cal Met Mak Def cal0 met0 mak0 pe_c pe_mk pe_mt pe_mt0 fnScope fnBody InsC call_isC tCut pss_cut)
open Evl (Ex ex_l ex_t ex_rd fresh_back sz_of sz_lt)
section
variable {P : Program} {w : World} {K : PySem.W.Frag} {mg : Str → Option Value} {base : Heap}
/-! ### changes: idle, after -/
abbrev s_idle : Stmt := topS 18
abbrev N_idle : List Str := ["states"]
theorem sc_idle : FnScope N_idle ["states"] (fnScope s_idle) := ⟨rfl, rfl, rfl, by decide +kernel, rfl, by decide +kernel, by decide +kernel⟩
theorem rgV_nat (n : Nat) : rgV 0 (n : Int) = nv (List.range n) := by
  unfold rgV
  rw [show ((n : Int) - 0).toNat = n by omega]
  exact List.map_congr_left fun i _ => by rw [Int.zero_add]
def RetT (K : PySem.W.Frag) (xs : List V) (H : Hp) (Q : VK) : Prop := ∀ p H', Ex H H' → SqT K H' p xs → Q (.ref p) H'
def spIdle (K : PySem.W.Frag) : Sp := sp1 fun x H Q => ∃ n : Nat, x = .int n ∧ n ≤ 100000 ∧ RetT K (nv (List.range n)) H Q
theorem c_idle (d : DefB K mg "idle" s_idle ["states"]) (Z : Zb mg) : Cal P w K mg base 1 "idle" (spIdle K) [] := by
  refine cal_of d sc_idle len1 fun vs H Q E h f cdv A outer s E' hr => ?_
  obtain ⟨x, rfl, n, rfl, hn, q⟩ := h
  refine ⟨_, (pss_one (ps_ret (pe_tupRg rfl (by rfl) Z.tuple_ (prg_1 rfl Z.range (pv 0))))), ?_⟩
  refine ⟨_, rfl, n, rfl, .of_le (by omega) (by omega) (by omega) (by omega), fun p hp => q p _ (ex_new hp) (SqT.of (by rw [rgV_nat]; exact upd_same))⟩
abbrev s_after : Stmt := topS 19
abbrev N_after : List Str := ["one", "other", "state"]
theorem sc_after : FnScope N_after ["one", "other"] (fnScope s_after) := ⟨rfl, rfl, rfl, by decide +kernel, rfl, by decide +kernel, by decide +kernel⟩
def spAfter (K : PySem.W.Frag) : Sp := sp2 fun x y H Q => ∃ a b, ∃ f g : List Nat, x = .ref a ∧ y = .ref b ∧ SqT K H a (nv f) ∧ SqT K H b (nv g) ∧ f.length ≤ 5000 ∧ (∀ s ∈ f, s < g.length) ∧ RetT K (nv (cmp f g)) H Q
theorem nv_snoc (xs : List Nat) (n : Nat) : nv (xs ++ [n]) = nv xs ++ [.int (n : Int)] := List.map_append
theorem cmp_take {f g : List Nat} {i s : Nat} (h : f[i]? = some s) : cmp (f.take (i + 1)) g = cmp (f.take i) g ++ [ap g s] := by
  unfold cmp
  rw [List.take_add_one, h, List.map_append]
  rfl
theorem nv_at {f : List Nat} {i : Nat} {x : V} (h : (nv f)[i]? = some x) : ∃ s, f[i]? = some s ∧ x = .int (s : Int) := by
  rw [List.getElem?_map] at h
  cases e : f[i]? with
  | none => rw [e] at h; cases h
  | some s => rw [e] at h; exact ⟨s, rfl, (Option.some.inj h).symm⟩
theorem c_after (d : DefB K mg "after" s_after ["one", "other"]) (Z : Zb mg) : Cal P w K mg base 1 "after" (spAfter K) [] := by
  refine cal_of d sc_after len2 fun vs H Q E h f0 cdv A outer s E' hr => ?_
  obtain ⟨x, y, rfl, a, b, f, g, rfl, rfl, ha, hb, hl, hlt, q⟩ := h
  refine ⟨_, (pss_one (ps_ret (pe_callTy (call_tupK K) (by rfl) Z.tuple_ (by decide +kernel) (pa_cons (pe_lc (own := [("state", 2)]) rfl sc_after.nd (pi_tupK K rfl (pv 0)) (blkOk_by (own := [("state", 2)]) (N := N_after) (sc := fnScope s_after) (by decide +kernel)) (fun _ _ _ _ _ => (pg_name (i := 2) sc_after.nd rfl (Or.inl rfl))) (fun _ _ _ _ _ => pts_nil) (fun _ _ _ _ _ => (pe_ix (ix_tupK K) (pv 1) (pv 2) (fun _ _ => rfl)))) pa_nil)))), ?_⟩
  refine ⟨_, rfl, a, rfl, ⟨_, ha⟩, fun D hD => cmT (fun i acc _ => acc = nv (cmp (f.take i) g)) (steady_val _) hD rfl ha (by rw [nv_len]; omega) ?_ ?_⟩
  · intro i x hi acc H2 QF QT e hd p kF kT
    obtain ⟨s0, hs, rfl⟩ := nv_at hi
    have hlt0 := hlt s0 (List.mem_of_getElem? hs)
    refine ⟨rfl, _, rfl, _, rfl, b, _, s0, _, rfl, rfl, ex_t e hb, atI_nat (nv_get (ap_get hlt0)), kT _ _ (Ex.refl _) ?_⟩
    show acc ++ [V.int (ap g s0 : Nat)] = nv (cmp (f.take (i + 1)) g)
    rw [show acc = _ from p, cmp_take hs, nv_snoc]
  · intro acc H2 e hd p
    rw [nv_len, List.take_length] at p
    subst p
    exact ⟨D, _, rfl, .inl ⟨SqL.of hd, fun l hl => q l _ (e.trans (ex_new hl)) (SqT.of upd_same)⟩⟩
abbrev s_raised : Stmt := topS 20
abbrev N_raised : List Str := ["change", "count", "step", "found", "left"]
theorem sc_raised : FnScope N_raised ["change", "count"] (fnScope s_raised) := ⟨rfl, rfl, rfl, by decide +kernel, rfl, by decide +kernel, by decide +kernel⟩
def spRaised (K : PySem.W.Frag) : Sp := sp2 fun x y H Q => ∃ a, ∃ (f : List Nat) (n : Nat), x = .ref a ∧ y = .int n ∧ SqT K H a (nv f) ∧ Chg f ∧ f.length ≤ 5000 ∧ RetT K (nv (pw f n)) H Q
theorem c_raised (d : DefB K mg "raised" s_raised ["change", "count"]) (Z : Zb mg) (c_idle : Cal P w K mg base 1 "idle" (spIdle K) []) (c_after : Cal P w K mg base 1 "after" (spAfter K) []) : Cal P w K mg base 2 "raised" (spRaised K) [] := by
  refine cal_of d sc_raised len2 fun vs H Q E h f0 cdv A outer s E' hr => ?_
  obtain ⟨x, y, rfl, a, f, n, rfl, rfl, ha, hf, hl, q⟩ := h
  refine ⟨_, (pss_cons (ps_par3 (i := 2) (j := 3) (l := 4) (by rfl) sc_raised.nd rfl rfl rfl (by decide) (by decide) (by decide) rfl rfl rfl (pa_cons (pv 0) (pa_cons (pe_c c_idle hr (by decide) (by rfl) (pa_cons (pe_callB (call_lenK K) (by rfl) Z.len (by decide +kernel) (pa_cons (pv 0) pa_nil)) pa_nil)) (pa_cons (pv 1) pa_nil))) (by rfl))
      (pss_cons (ps_while PassesOwn.never (pt_cmpR on_gt (pv 4) pe_int (nomark _))
        (pss_cons (ps_if (pt_cmpR on_eq (pe_op on_mod (pv 4) pe_int) pe_int (nomark _))
          (pss_one (ps_set (i := 3) sc_raised.nd rfl (Or.inl rfl) (pe_c c_after hr (by decide) (by rfl) (pa_cons (pv 3) (pa_cons (pv 2) pa_nil)))))
          pss_nil)
        (pss_one (ps_par (i := 2) (j := 4) (by rfl) sc_raised.nd rfl rfl (by decide) rfl rfl (pa_cons (pe_c c_after hr (by decide) (by rfl) (pa_cons (pv 2) (pa_cons (pv 2) pa_nil))) (pa_cons (pe_op on_fdiv (pv 4) pe_int) pa_nil)) (by rfl)))))
      (pss_one (ps_ret (pv 3))))), ?_⟩
  refine ⟨_, rfl, _, rfl, a, _, rfl, .inr ha, _, rfl, f.length, by rw [nv_len], by omega, fun p H1 e1 hp => ?_⟩
  refine ⟨_, rfl, _, _, _, rfl, ?_⟩
  refine ⟨fun l σ H' => ∃ b c k m, σ = [some (.ref a), some (.int n), some (.ref b), some (.ref c), some (.int l)] ∧ Ex H H' ∧ SqT K H' b (nv (pw f k)) ∧ SqT K H' c (nv (pw f m)) ∧ m + k * l = n,
    ⟨n, a, p, 1, 0, rfl, e1, by rw [pw_one]; exact ex_t e1 ha, by rw [pw_zero]; exact hp, by omega⟩, ?_⟩
  rintro l σ H' ⟨b, c, k, m, rfl, e, hb, hc, hn⟩
  refine ⟨_, rfl, l, 0, rfl, rfl, _, rfl, ?_⟩
  by_cases hl0 : 0 < l
  · rw [decide_eq_true hl0]
    refine iteT ⟨fun σ' H2 => ∃ b' c' k' m', σ' = [some (.ref a), some (.int n), some (.ref b'), some (.ref c'), some (.int (l / 2 : Nat))] ∧ Ex H H2 ∧ SqT K H2 b' (nv (pw f k')) ∧ SqT K H2 c' (nv (pw f m')) ∧ m' + k' * (l / 2) = n, ?_, ?_⟩
    · rintro σ' H2 ⟨b', c', k', m', e1, e2, e3, e4, e5⟩
      exact ⟨l / 2, by omega, b', c', k', m', e1, e2, e3, e4, e5⟩
    · -- the rest of the turn, from any found
      have rest : ∀ c' m' H2, Ex H H2 → SqT K H2 b (nv (pw f k)) → SqT K H2 c' (nv (pw f m')) → m' + k * (l / 2 * 2) = n →
          tPar 2 4 (tCons (tCall (spAfter K) [] C8.E0 (tCons (tVar 2) (tCons (tVar 2) tNil))) (tCons (tOp (rNc (fun _ m => 0 < m ∧ m < 1073741824) fun n m => .int ((n / m : Nat) : Int)) (tVar 4) (tC (.int 2))) tNil))
            { nx := fun σ' H2 => ∃ b' c' k' m', σ' = [some (.ref a), some (.int n), some (.ref b'), some (.ref c'), some (.int (l / 2 : Nat))] ∧ Ex H H2 ∧ SqT K H2 b' (nv (pw f k')) ∧ SqT K H2 c' (nv (pw f m')) ∧ m' + k' * (l / 2) = n,
              rt := Q, bk := fun _ _ => False, ct := fun _ _ => False } [some (.ref a), some (.int n), some (.ref b), some (.ref c'), some (.int l)] H2 := by
        intro c' m' H2 e2 hb2 hc2 hm
        refine ⟨_, rfl, _, rfl, _, _, rfl, b, b, _, _, rfl, rfl, hb2, hb2, by rw [pw_len]; omega, by rw [pw_len]; exact fun s hs => by have := pw_chg hf k s hs; rwa [pw_len] at this, fun p3 H3 e3 h3 => ?_⟩
        refine ⟨_, rfl, l, 2, rfl, rfl, ⟨by omega, by omega⟩, _, _, rfl, p3, c', k + k, m', rfl, e2.trans e3, ?_, ex_t e3 hc2, ?_⟩
        · rw [← cmp_pw hf]; exact h3
        · rw [← hm]; rw [Nat.add_mul, Nat.mul_comm (l / 2) 2, ← Nat.mul_assoc, Nat.mul_comm k 2, Nat.two_mul, Nat.add_mul]
      refine ⟨_, rfl, l, 2, rfl, rfl, by omega, l % 2, 1, rfl, rfl, _, rfl, ?_⟩
      by_cases ho : l % 2 = 1
      · rw [decide_eq_true ho]
        refine iteT ⟨_, rfl, _, rfl, _, _, rfl, c, b, _, _, rfl, rfl, hc, hb, by rw [pw_len]; omega, by rw [pw_len]; exact fun s hs => by have := pw_chg hf m s hs; rwa [pw_len] at this, fun p3 H3 e3 h3 => ?_⟩
        refine rest p3 (m + k) H3 (e.trans e3) (ex_t e3 hb) (by rw [← cmp_pw hf]; exact h3) ?_
        rw [← hn, Nat.add_assoc]
        congr 1
        have : l = l / 2 * 2 + 1 := by omega
        rw [show k * l = k * (l / 2 * 2 + 1) from by rw [← this], Nat.mul_add, Nat.mul_one, Nat.add_comm]
      · rw [decide_eq_false ho]
        refine iteF (rest c m H' e hb hc ?_)
        rw [show l / 2 * 2 = l by omega]
        exact hn
  · rw [decide_eq_false hl0]
    have l0 : l = 0 := by omega
    subst l0
    rw [Nat.mul_zero, Nat.add_zero] at hn
    subst hn
    exact iteF ⟨_, rfl, q c _ e hc⟩
end
end Bf
namespace Bf
open PySem PySem.Spec PyProof.Rows L2 RZ PpSet
open C8 (Cal Met Mak Def cal0 met0 mak0 pe_c pe_mk pe_mt pe_mt0 fnScope fnBody InsC call_isC tCut pss_cut)
open Evl (Ex ex_l ex_t ex_rd fresh_back sz_of sz_lt)
section
variable {P : Program} {w : World} {K : PySem.W.Frag} {mg : Str → Option Value} {base : Heap}
abbrev s_Machine_does : Stmt := inClass (topS 15) 3
abbrev N_Machine_does : List Str := ["self", "command", "row"]
theorem sc_Machine_does : FnScope N_Machine_does ["self", "command"] (fnScope s_Machine_does) := ⟨rfl, rfl, rfl, by decide +kernel, rfl, by decide +kernel, by decide +kernel⟩
def spDoes (K : PySem.W.Frag) (CM : Addr) : Sp := sp2 fun x y H Q => ∃ m, ∃ (c k : Nat) (rows : List (List Nat)), x = .ref m ∧ y = .int k ∧ Mach K CM H m c rows ∧ MW c rows ∧ k < c ∧ RetT K (nv (col rows k)) H Q
theorem c_Machine_does {CM : Addr} (d : MetB K CM "does" "Machine.does" s_Machine_does ["self", "command"]) (T : Mx K mg CM) (Z : Zb mg) : Met P w K mg base 1 CM "does" (spDoes K CM) [] := by
  refine met_of d sc_Machine_does len2 fun vs H Q E h f0 cdv A outer s E' hr => ?_
  obtain ⟨x, y, rfl, m, c, k, rows, rfl, rfl, ⟨dx, sp, fd, zs, hm, hsp, ht⟩, hw, hk, q⟩ := h
  refine ⟨_, (pss_one (ps_ret (pe_callTy (call_tupK K) (by rfl) Z.tuple_ (by decide +kernel) (pa_cons (pe_lc (own := [("row", 2)]) rfl sc_Machine_does.nd (pi_tupK K rfl (pe_fldK K rfl (pv 0) rfl)) (blkOk_by (own := [("row", 2)]) (N := N_Machine_does) (sc := fnScope s_Machine_does) (by decide +kernel)) (fun _ _ _ _ _ => (pg_name (i := 2) sc_Machine_does.nd rfl (Or.inl rfl))) (fun _ _ _ _ _ => pts_nil) (fun _ _ _ _ _ => (pe_ix (ix_tupK K) (pv 2) (pv 1) (fun _ _ => rfl)))) pa_nil)))), ?_⟩
  refine ⟨.ref m, rfl, m, CM, dx, _, _, rfl, hm, T.cl, T.nS, mf_steps, sp, rfl, ⟨_, hsp⟩, fun D hD => cmT (fun i acc _ => acc = nv (col (rows.take i) k)) (steady_val _) hD rfl hsp (by rw [ht.1]; have := hw.nz; omega) ?_ ?_⟩
  · intro i x hi acc H2 QF QT e hd p kF kT
    have hil : i < rows.length := by rw [← ht.1]; exact (List.getElem?_eq_some_iff.mp hi).1
    obtain ⟨p2, h1, h2⟩ := ht.2 i rows[i] (List.getElem?_eq_getElem hil)
    rw [hi] at h1
    cases h1
    have hlen := hw.len _ (List.getElem_mem hil)
    have hkr : k < rows[i].length := by omega
    refine ⟨rfl, .ref p2, rfl, .int k, rfl, p2, _, k, .int (rows[i].getD k 0 : Nat), rfl, rfl, ex_t e h2, atI_nat (nv_get ?_), kT _ _ (Ex.refl _) ?_⟩
    · rw [List.getD_eq_getElem?_getD, List.getElem?_eq_getElem hkr]
      rfl
    · show acc ++ [V.int (rows[i].getD k 0 : Nat)] = nv (col (rows.take (i + 1)) k)
      rw [show acc = _ from p, List.take_add_one, List.getElem?_eq_getElem hil]
      unfold col
      rw [List.map_append, ← nv_snoc]
      rfl
  · intro acc H2 e hd p
    have p' : acc = nv (col (rows.take zs.length) k) := p
    rw [ht.1, List.take_length] at p'
    subst p'
    exact ⟨D, _, rfl, .inl ⟨SqL.of hd, fun l hl => q l _ (e.trans (ex_new hl)) (SqT.of upd_same)⟩⟩
abbrev s_Machine_init : Stmt := inClass (topS 15) 0
abbrev N_Machine_init : List Str := ["self", "commands", "steps", "state", "row", "to"]
theorem sc_Machine_init : FnScope N_Machine_init ["self", "commands", "steps"] (fnScope s_Machine_init) := ⟨rfl, rfl, rfl, by decide +kernel, rfl, by decide +kernel, by decide +kernel⟩
def spMachine (K : PySem.W.Frag) (CM : Addr) : Sp := sp3 fun x y z H Q => ∃ a l dx, ∃ (c : Nat) (vs : List V) (rows : List (List Nat)), x = .ref a ∧ y = .int c ∧ z = .ref l ∧ H a = some (.ins CM dx []) ∧ SqL K H l vs ∧ Seqs K H vs rows ∧ MW c rows ∧
  ∀ H', ExB a H H' → Mach K CM H' a c rows → Q .non H'
theorem c_Machine_init {CM : Addr} (d : MakB K mg "Machine" "Machine.__init__" CM s_Machine_init ["self", "commands", "steps"]) (T : Mx K mg CM) (Z : Zb mg)
    (c_is_number : Cal P w K mg base 2 "is_number" spNumber []) (c_is_index : Cal P w K mg base 3 "is_index" spIndex []) (c_is_sequence : Cal P w K mg base 1 "is_sequence" (spSequence K) []) :
    Mak P w K mg base 4 "Machine" CM (spMachine K CM) [] := by
  refine mak_of d sc_Machine_init len3 fun vs0 H Q E h f0 cdv A outer s E' hr => ?_
  obtain ⟨x, y, z, rfl, a, l, dx, c, vs, rows, rfl, rfl, rfl, ha, hl, hs, hw, q⟩ := h
  have nz := hw.nz
  have n0 := hw.n0
  have c0 := hw.c0
  have vl := hs.1
  refine ⟨_, (pss_cons (ps_if (PW.pt (pw_or (pt_not (pt_val (pe_c c_is_number hr (by decide) (by rfl) (pa_cons (pv 1) pa_nil)))) (pw_or1 (pt_cmpR on_eq (pv 1) pe_int (nomark _)))))
        (pss_one ps_never)
        pss_nil)
      (pss_cons (ps_if (PW.pt (pw_or (pt_not (pt_val (pe_c c_is_sequence hr (by decide) (by rfl) (pa_cons (pv 2) pa_nil)))) (pw_or1 (pt_cmpR on_eq (pe_callB (call_lenK K) (by rfl) Z.len (by decide +kernel) (pa_cons (pv 2) pa_nil)) pe_int (nomark _)))))
        (pss_one ps_never)
        pss_nil)
      (pss_cons (ps_for PassesOwn.never rfl (pi_enum (by rfl) Z.enumerate (pa_cons (pv 2) pa_nil)) (pg_tupK K rfl 2 rfl (pgs_cons (pg_name (i := 3) sc_Machine_init.nd rfl (Or.inl rfl)) (pgs_cons (pg_name (i := 4) sc_Machine_init.nd rfl (Or.inl rfl)) pgs_nil)))
        (pss_one (ps_if (PW.pt (pw_or (pt_not (pt_val (pe_c c_is_sequence hr (by decide) (by rfl) (pa_cons (pv 4) pa_nil)))) (pw_or (pt_cmpR on_ne (pe_callB (call_lenK K) (by rfl) Z.len (by decide +kernel) (pa_cons (pv 4) pa_nil)) (pv 1) (nomark _)) (pw_or1 (pt_not (pt_val (pe_callB (cr_allK K rfl rfl) (by rfl) Z.all (by decide +kernel) (pa_cons (pe_lc (own := [("to", 5)]) rfl sc_Machine_init.nd (pi_seqK K rfl (pv 4)) (blkOk_by (own := [("to", 5)]) (N := N_Machine_init) (sc := fnScope s_Machine_init) (by decide +kernel)) (fun _ _ _ _ _ => (pg_name (i := 5) sc_Machine_init.nd rfl (Or.inl rfl))) (fun _ _ _ _ _ => pts_nil) (fun _ _ _ _ _ => (pe_c c_is_index hr (by decide) (by rfl) (pa_cons (pv 5) (pa_cons (pe_callB (call_lenK K) (by rfl) Z.len (by decide +kernel) (pa_cons (pv 2) pa_nil)) pa_nil))))) pa_nil))))))))
          (pss_one ps_never)
          pss_nil)))
      (pss_cons (ps_fld (pv 0) (pv 1) rfl)
      (pss_cons (ps_fld (pv 0) (pe_callB (call_lenK K) (by rfl) Z.len (by decide +kernel) (pa_cons (pv 2) pa_nil)) rfl)
      (pss_cons (ps_fld (pv 0) (pe_callTy (call_tupK K) (by rfl) Z.tuple_ (by decide +kernel) (pa_cons (pe_lc (own := [("row", 4)]) rfl sc_Machine_init.nd (pi_listK K rfl (pv 2)) (blkOk_by (own := [("row", 4)]) (N := N_Machine_init) (sc := fnScope s_Machine_init) (by decide +kernel)) (fun _ _ _ _ _ => (pg_name (i := 4) sc_Machine_init.nd rfl (Or.inl rfl))) (fun _ _ _ _ _ => pts_nil) (fun _ _ _ _ _ => (pe_callTy (call_tupK K) (by rfl) Z.tuple_ (by decide +kernel) (pa_cons (pv 4) pa_nil)))) pa_nil)) rfl)
      (pss_one (ps_fld (pv 0) pe_dnewK rfl)))))))), ?_⟩
  refine ⟨_, rfl, _, rfl, c, rfl, true, rfl, _, rfl, c, 0, rfl, rfl, _, rfl, ?_⟩
  rw [decide_eq_false (by omega)]
  refine ⟨_, rfl, _, rfl, l, vs, rfl, .inl hl, fun H1 e1 => ⟨true, rfl, _, rfl, l, vs, rfl, .inl (ex_l e1 hl), vs.length, 0, rfl, rfl, _, rfl, ?_⟩⟩
  rw [decide_eq_false (by omega)]
  refine ⟨_, rfl, l, vs, rfl, ex_l e1 hl, for_enL (fun i σ H' => ∃ u v, σ = [some (.ref a), some (.int c), some (.ref l), u, v, none] ∧ Ex H H') ⟨none, none, rfl, e1⟩ (fun i σ H' _ p => by obtain ⟨u, v, _, e⟩ := p; exact ex_l e hl) ?_ ?_⟩
  · -- a turn
    rintro i x t σ H2 hi ⟨u, v, rfl, e2⟩ ht
    have hil : i < rows.length := by rw [← vl]; exact (List.getElem?_eq_some_iff.mp hi).1
    obtain ⟨p, h1, h2⟩ := hs.2 i rows[i] (List.getElem?_eq_getElem hil)
    rw [hi] at h1
    cases h1
    have e3 := e2.trans (ex_new (o := .tup [.int (i : Nat), .ref p]) ht)
    have hlen := hw.len _ (List.getElem_mem hil)
    refine ⟨t, _, rfl, SqT.of upd_same, rfl, _, _, rfl, _, _, rfl, rfl, ?_⟩
    refine ⟨_, rfl, _, rfl, p, _, rfl, (h2.elim (fun z => .inl (ex_l e3 z)) fun z => .inr (ex_t e3 z)), fun H3 e4 => ⟨true, rfl, ?_⟩⟩
    have e5 := e3.trans e4
    have h3 : SqL K H3 p (nv rows[i]) ∨ SqT K H3 p (nv rows[i]) := h2.elim (fun z => .inl (ex_l e5 z)) fun z => .inr (ex_t e5 z)
    refine ⟨_, rfl, p, _, rfl, h3, _, rfl, (nv rows[i]).length, c, rfl, rfl, _, rfl, ?_⟩
    rw [nv_len, decide_eq_true hlen]
    -- all([is_index(to, len(steps)) for to in row])
    have turn : ∀ (D : Addr) (k : Nat) (x : V), (nv rows[i])[k]? = some x → CTurn H3 D (fun k acc _ => acc = List.replicate k (V.bl true)) (gName 5) tYes
        (tCall spIndex [] C8.E0 (tCons (tVar 5) (tCons (tCB (rLen K) (tCons (tVar 2) tNil)) tNil))) [5] [some (.ref a), some (.int c), some (.ref l), some (.int (i : Nat)), some (.ref p), none] k x := by
      intro D k x hk acc H4 QF QT e hd pk kF kT
      obtain ⟨s0, hs0, rfl⟩ := nv_at hk
      have hlt := hw.lt _ (List.getElem_mem hil) s0 (List.mem_of_getElem? hs0)
      refine ⟨rfl, _, rfl, _, rfl, l, vs, rfl, .inl (ex_l (e5.trans e) hl), _, _, rfl, s0, vs.length, rfl, rfl, by omega, kT _ _ (Ex.refl _) ?_⟩
      show acc ++ [V.bl true] = List.replicate (k + 1) (V.bl true)
      rw [show acc = _ from pk, List.replicate_succ']
    have fin : ∀ (D : Addr) (acc : List V) (H4 : Hp), Ex H3 H4 → H4 D = some (.lst acc) → acc = List.replicate (nv rows[i]).length (V.bl true) → ∃ (p' : Addr) (bs : List Bool), [V.ref D] = [V.ref p'] ∧ SqL K H4 p' (bs.map V.bl) ∧ bs.all id = true := by
      intro D acc H4 e hd pk
      refine ⟨D, List.replicate (nv rows[i]).length true, rfl, SqL.of (by rw [hd, pk, List.map_replicate]), by rw [List.all_replicate]; simp⟩
    rcases h3 with h3 | h3
    · refine Or.inl ⟨_, rfl, p, rfl, ⟨_, h3⟩, fun D hD => cmL _ (steady_val _) hD rfl h3 (by rw [nv_len, hlen]; have := hw.cz; omega) (turn D) fun acc H4 e hd pk => ?_⟩
      obtain ⟨p', bs, e1', h4, hb⟩ := fin D acc H4 e hd pk
      cases e1'
      refine ⟨D, bs, rfl, h4, _, rfl, ?_⟩
      rw [hb]
      exact ⟨_, _, rfl, e5.trans e⟩
    · refine Or.inr ⟨_, rfl, p, rfl, ⟨_, h3⟩, fun D hD => cmT _ (steady_val _) hD rfl h3 (by rw [nv_len, hlen]; have := hw.cz; omega) (turn D) fun acc H4 e hd pk => ?_⟩
      obtain ⟨p', bs, e1', h4, hb⟩ := fin D acc H4 e hd pk
      cases e1'
      refine ⟨D, bs, rfl, h4, _, rfl, ?_⟩
      rw [hb]
      exact ⟨_, _, rfl, e5.trans e⟩
  · -- the fields
    rintro σ H2 ⟨u, v, rfl, e2⟩
    have ha2 := e2 _ _ ha
    refine ⟨_, rfl, _, rfl, a, CM, dx, _, rfl, ha2, T.cl, T.nC, by show 0 < 1000; decide, ?_⟩
    have b3 : ExB a H2 (upd H2 a (.ins CM dx (putF "commands" (.int (c : Int)) []))) := exB_upd
    have ha3 : (upd H2 a (.ins CM dx (putF "commands" (.int (c : Int)) []))) a = some (.ins CM dx (putF "commands" (.int (c : Int)) [])) := upd_same
    generalize hH3 : upd H2 a (.ins CM dx (putF "commands" (.int (c : Int)) [])) = H3 at b3 ha3 ⊢
    have hl3 := (exB_ins ha2 b3).2 (ex_l e2 hl)
    refine ⟨_, rfl, l, vs, rfl, .inl hl3, _, rfl, a, CM, dx, _, rfl, ha3, T.cl, T.nT, by show 1 < 1000; decide, ?_⟩
    have b4 : ExB a H3 (upd H3 a (.ins CM dx (putF "states" (.int (vs.length : Nat)) (putF "commands" (.int (c : Int)) [])))) := exB_upd
    have ha4 : (upd H3 a (.ins CM dx (putF "states" (.int (vs.length : Nat)) (putF "commands" (.int (c : Int)) [])))) a = some (.ins CM dx (putF "states" (.int (vs.length : Nat)) (putF "commands" (.int (c : Int)) []))) := upd_same
    generalize hH4 : upd H3 a (.ins CM dx (putF "states" (.int (vs.length : Nat)) (putF "commands" (.int (c : Int)) []))) = H4 at b4 ha4 ⊢
    have hl4 := (exB_ins ha3 b4).2 hl3
    have hs4 : Seqs K H4 vs rows := by
      refine ⟨vl, fun i xs hi => ?_⟩
      obtain ⟨p, h1, h2⟩ := hs.2 i xs hi
      refine ⟨p, h1, ?_⟩
      rcases h2 with h2 | h2
      · exact .inl ((exB_ins ha3 b4).2 ((exB_ins ha2 b3).2 (ex_l e2 h2)))
      · exact .inr ((exB_ins ha3 b4).1 ((exB_ins ha2 b3).1 (ex_t e2 h2)))
    -- tuple([tuple(row) for row in steps])
    refine ⟨_, rfl, l, rfl, ⟨_, hl4⟩, fun D hD => cmL (fun i acc H' => Tups K H' acc (rows.take i)) (fun i acc zs zs' H' hd p => p.upd hd) hD Tups.nil hl4 (by omega) ?_ ?_⟩
    · intro i x hi acc H5 QF QT e hd p kF kT
      have hil : i < rows.length := by rw [← vl]; exact (List.getElem?_eq_some_iff.mp hi).1
      obtain ⟨p2, h1, h2⟩ := hs4.2 i rows[i] (List.getElem?_eq_getElem hil)
      rw [hi] at h1
      cases h1
      have et : rows.take (i + 1) = rows.take i ++ [rows[i]] := by rw [List.take_add_one, List.getElem?_eq_getElem hil]; rfl
      rcases h2 with h2 | h2
      · refine ⟨rfl, _, rfl, p2, _, rfl, .inl ⟨ex_l e h2, fun t ht => kT _ _ (ex_new ht) ?_⟩⟩
        show Tups K _ _ (rows.take (i + 1))
        rw [et]
        exact (Tups.ex p (ex_new ht)).snoc (SqT.of upd_same)
      · refine ⟨rfl, _, rfl, p2, _, rfl, .inr ⟨ex_t e h2, kT _ _ (Ex.refl _) ?_⟩⟩
        show Tups K _ _ (rows.take (i + 1))
        rw [et]
        exact Tups.snoc p (ex_t e h2)
    · intro acc H5 e hd p
      have p' : Tups K H5 acc (rows.take vs.length) := p
      rw [vl, List.take_length] at p'
      refine ⟨D, acc, rfl, .inl ⟨SqL.of hd, fun sp hsp => ?_⟩⟩
      have e6 := e.trans (ex_new (o := .tup acc) hsp)
      refine ⟨_, rfl, a, CM, dx, _, rfl, e6 _ _ ha4, T.cl, T.nS, by show 2 < 1000; decide, ?_⟩
      have nsa : sp ≠ a := fun z => by rw [z, e _ _ ha4] at hsp; cases hsp
      have b6 : ExB a (upd H5 sp (.tup acc)) (upd (upd H5 sp (.tup acc)) a (.ins CM dx (putF "steps" (.ref sp) (putF "states" (.int (vs.length : Nat)) (putF "commands" (.int (c : Int)) []))))) := exB_upd
      have p6 : Tups K (upd H5 sp (.tup acc)) acc rows := p'.ex (ex_new hsp)
      have s6 : SqT K (upd H5 sp (.tup acc)) sp acc := SqT.of upd_same
      have ha6 : (upd H5 sp (.tup acc)) a = some (.ins CM dx (putF "states" (.int (vs.length : Nat)) (putF "commands" (.int (c : Int)) []))) := e6 _ _ ha4
      intro fd hfd
      have nfa : a ≠ fd := fun z => by rw [← z, upd_same] at hfd; cases hfd
      refine ⟨_, rfl, a, CM, dx, _, rfl, (upd_ne nfa).trans upd_same, T.cl, T.nF, by show 3 < 1000; decide, ?_⟩
      have b7 : ExB a (upd H5 sp (.tup acc)) (upd (upd (upd (upd H5 sp (.tup acc)) a (.ins CM dx (putF "steps" (.ref sp) (putF "states" (.int (vs.length : Nat)) (putF "commands" (.int (c : Int)) []))))) fd (.dK [])) a
          (.ins CM dx (putF "_found" (.ref fd) (putF "steps" (.ref sp) (putF "states" (.int (vs.length : Nat)) (putF "commands" (.int (c : Int)) [])))))) := fun b o nb hb => by
        rw [upd_ne nb]
        have hb2 := b6 b o nb hb
        rw [upd_ne (ne_of_none hb2 hfd)]
        exact hb2
      refine q _ ?_ ⟨dx, sp, fd, acc, ?_, (exB_ins ha6 b7).1 s6, p6.1, fun i xs hi => ?_⟩
      · exact (((exB_of e2).trans b3).trans b4).trans ((exB_of e6).trans b7)
      · rw [upd_same, vl]
        rfl
      · obtain ⟨p8, h8, h9⟩ := p6.2 i xs hi
        exact ⟨p8, h8, (exB_ins ha6 b7).1 h9⟩
end
end Bf
namespace Bf
open PySem PySem.Spec PyProof.Rows L2 RZ PpSet
open C8 (Cal Met Mak Def cal0 met0 mak0 pe_c pe_mk pe_mt pe_mt0 fnScope fnBody InsC call_isC tCut pss_cut)
open Evl (Ex ex_l ex_t ex_rd fresh_back sz_of sz_lt)
section
variable {P : Program} {w : World} {K : PySem.W.Frag} {mg : Str → Option Value} {base : Heap}
theorem val_path (g : Nat → Nat) (j k : Nat) :
    (∀ v, valV ((List.range j).map fun x => ((Sum.inl (g x : Int) : Key), V.int (x : Int))) (Sum.inl (k : Int)) = some v → ∃ x, x < j ∧ g x = k ∧ v = V.int (x : Int)) ∧
    (valV ((List.range j).map fun x => ((Sum.inl (g x : Int) : Key), V.int (x : Int))) (Sum.inl (k : Int)) = none → ∀ x, x < j → g x ≠ k) := by
  unfold valV
  constructor
  · intro v h
    obtain ⟨kv, h1, h2⟩ := Option.map_eq_some_iff.mp h
    have h3 := List.find?_some h1
    have h4 := List.mem_of_find?_eq_some h1
    obtain ⟨x, hx, rfl⟩ := List.mem_map.mp h4
    have h5 : (Sum.inl (g x : Int) : Key) = Sum.inl (k : Int) := of_decide_eq_true h3
    injection h5 with h6
    exact ⟨x, List.mem_range.mp hx, by omega, h2.symm⟩
  · intro h x hx e
    have h1 := Option.map_eq_none_iff.mp h
    have h2 := List.find?_eq_none.mp h1 _ (List.mem_map.mpr ⟨x, List.mem_range.mpr hx, rfl⟩)
    rw [e] at h2
    exact h2 (decide_eq_true rfl)
theorem put_path (g : Nat → Nat) (j : Nat) (h : ∀ x, x < j → g x ≠ g j) :
    putK ((List.range j).map fun x => ((Sum.inl (g x : Int) : Key), V.int (x : Int))) (Sum.inl (g j : Int)) (V.int (j : Int)) = (List.range (j + 1)).map fun x => ((Sum.inl (g x : Int) : Key), V.int (x : Int)) := by
  unfold putK
  have hn : ¬ (((List.range j).map fun x => ((Sum.inl (g x : Int) : Key), V.int (x : Int))).any fun kv => decide (kv.1 = Sum.inl (g j : Int))) = true := fun z => by
    obtain ⟨kv, h1, h2⟩ := List.any_eq_true.mp z
    obtain ⟨x, hx, rfl⟩ := List.mem_map.mp h1
    have h5 : (Sum.inl (g x : Int) : Key) = Sum.inl (g j : Int) := of_decide_eq_true h2
    injection h5 with h6
    exact h x (List.mem_range.mp hx) (by omega)
  rw [if_neg hn, List.range_succ, List.map_append]
  rfl
abbrev s_tail_and_ring : Stmt := topS 21
abbrev N_tail_and_ring : List Str := ["change", "longest", "length", "state", "steps", "at"]
theorem sc_tail_and_ring : FnScope N_tail_and_ring ["change"] (fnScope s_tail_and_ring) := ⟨rfl, rfl, rfl, by decide +kernel, rfl, by decide +kernel, by decide +kernel⟩
def spTail (K : PySem.W.Frag) : Sp := sp1 fun x H Q => ∃ a, ∃ f : List Nat, x = .ref a ∧ SqT K H a (nv f) ∧ Chg f ∧ f.length ≤ 16 ∧ ∀ t r, TR f t r → RetT K [.int (t : Nat), .int (r : Nat)] H Q
theorem c_tail_and_ring (d : DefB K mg "tail_and_ring" s_tail_and_ring ["change"]) (Z : Zb mg) (c_common_multiple : Cal P w K mg base 2 "common_multiple" spMultiple []) : Cal P w K mg base 3 "tail_and_ring" (spTail K) [] := by
  refine cal_of d sc_tail_and_ring len1 fun vs H Q E h f0 cdv A outer s E' hr => ?_
  obtain ⟨x, rfl, a, f, rfl, ha, hf, hl, q⟩ := h
  refine ⟨_, (pss_cons (ps_asg (pe_tup (pa_cons pe_int (pa_cons pe_int pa_nil))) (pg_tupK K rfl 2 rfl (pgs_cons (pg_name (i := 1) sc_tail_and_ring.nd rfl (Or.inl rfl)) (pgs_cons (pg_name (i := 2) sc_tail_and_ring.nd rfl (Or.inl rfl)) pgs_nil))))
      (pss_cons (ps_for PassesOwn.never rfl (pi_range1 (by rfl) Z.range (pa_cons (pe_callB (call_lenK K) (by rfl) Z.len (by decide +kernel) (pa_cons (pv 0) pa_nil)) pa_nil)) (pg_name (i := 3) sc_tail_and_ring.nd rfl (Or.inl rfl))
        (pss_cons (ps_par (i := 4) (j := 5) (by rfl) sc_tail_and_ring.nd rfl rfl (by decide) rfl rfl (pa_cons pe_dnewK (pa_cons (pv 3) pa_nil)) (by rfl))
        (pss_cons (ps_while PassesOwn.never (pt_cmp (pc_dnotin (hu_of hr) (pv 5) (pv 4)))
          (pss_one (ps_asg (pe_tup (pa_cons (pe_callB call_lenD (by rfl) Z.len (by decide +kernel) (pa_cons (pv 4) pa_nil)) (pa_cons (pe_ix (ix_tupK K) (pv 0) (pv 5) (fun _ _ => rfl)) pa_nil))) (pg_tupK K rfl 2 rfl (pgs_cons (pg_sub (pv 4) (pv 5) (set_dict (hu_of hr))) (pgs_cons (pg_name (i := 5) sc_tail_and_ring.nd rfl (Or.inl rfl)) pgs_nil))))))
        (pss_cons (ps_set (i := 1) sc_tail_and_ring.nd rfl (Or.inl rfl) (pe_callB (cn_max2 rfl) (by rfl) Z.max_ (by decide +kernel) (pa_cons (pv 1) (pa_cons (pe_dget (hu_of hr) (pv 4) (pv 5) (fun _ _ => rfl)) pa_nil))))
        (pss_one (ps_set (i := 2) sc_tail_and_ring.nd rfl (Or.inl rfl) (pe_c c_common_multiple hr (by decide) (by rfl) (pa_cons (pv 2) (pa_cons (pe_op on_sub (pe_callB call_lenD (by rfl) Z.len (by decide +kernel) (pa_cons (pv 4) pa_nil)) (pe_dget (hu_of hr) (pv 4) (pv 5) (fun _ _ => rfl))) pa_nil)))))))))
      (pss_one (ps_ret (pe_tup (pa_cons (pv 1) (pa_cons (pv 2) pa_nil))))))), ?_⟩
  refine ⟨by show 2 ≤ sizeLine; decide, fun p hp => ⟨p, _, rfl, SqT.of upd_same, rfl, _, _, rfl, _, _, rfl, rfl, ?_⟩⟩
  have e1 := ex_new (o := .tup [.int 0, .int 1]) hp
  refine ⟨_, rfl, a, _, rfl, .inr (ex_t e1 ha), f.length, by rw [nv_len], by omega, by omega, for_rng (n := f.length) (fun i σ H' => ∃ t r u v w, σ = [some (.ref a), some (.int (t : Nat)), some (.int (r : Nat)), u, v, w] ∧ Ex H H' ∧ TRi f i t r)
    ⟨0, 1, none, none, none, rfl, e1, TRi.zero f⟩ ?_ ?_⟩
  · rintro i σ H2 hi ⟨t, r, u, v, w, rfl, e2, hT⟩
    -- steps, at = {}, state
    refine fun dd hd => ⟨_, rfl, _, _, rfl, ?_⟩
    have dd0 : H dd = none := fresh_back e2 hd
    refine ⟨fun m σ H' => ∃ j, m = f.length - j ∧ σ = [some (.ref a), some (.int (t : Nat)), some (.int (r : Nat)), some (.int (i : Nat)), some (.ref dd), some (.int (it f j i : Nat))] ∧ Ex H H' ∧
      H' dd = some (.dK ((List.range j).map fun x => ((Sum.inl (it f x i : Int) : Key), V.int (x : Int)))) ∧ (∀ x y, x < y → y < j → it f x i ≠ it f y i), ⟨f.length, 0, rfl, rfl, ex_mut e2 dd0, upd_same, fun x y _ h => absurd h (Nat.not_lt_zero _)⟩, ?_⟩
    rintro m σ H3 ⟨j, rfl, rfl, e3, hd3, hn⟩
    have hjl := path_le hf hi hn
    have vp := val_path (fun x => it f x i) j (it f j i)
    refine ⟨_, rfl, _, rfl, dd, _, rfl, DGet.k (k := Sum.inl (it f j i : Int)) hd3, _, rfl, ?_⟩
    generalize ho : valV ((List.range j).map fun x => ((Sum.inl (it f x i : Int) : Key), V.int (x : Int))) (Sum.inl (it f j i : Int)) = o at vp
    cases o with
    | none =>
      have hno := vp.2 rfl
      have hn2 : ∀ x y, x < y → y < j + 1 → it f x i ≠ it f y i := fun x y h1 h2 => by
        by_cases e : y = j
        · subst e; exact hno x h1
        · exact hn x y h1 (by omega)
      have hjl2 := path_le hf hi hn2
      refine ⟨fun σ' H' => σ' = [some (.ref a), some (.int (t : Nat)), some (.int (r : Nat)), some (.int (i : Nat)), some (.ref dd), some (.int (it f (j + 1) i : Nat))] ∧ Ex H H' ∧
        H' dd = some (.dK ((List.range (j + 1)).map fun x => ((Sum.inl (it f x i : Int) : Key), V.int (x : Int)))), fun σ' H' ⟨h1, h2, h3⟩ => ⟨f.length - (j + 1), by omega, j + 1, rfl, h1, h2, h3, hn2⟩, ?_⟩
      have hlt := it_lt hf j hi
      refine ⟨_, rfl, dd, _, rfl, hd3, _, rfl, _, rfl, a, _, it f j i, _, rfl, rfl, ex_t e3 ha, atI_nat (nv_get (ap_get hlt)), by show 2 ≤ sizeLine; decide, fun p2 hp2 => ?_⟩
      have hd4 : (upd H3 p2 (.tup [.int (((List.range j).map fun x => ((Sum.inl (it f x i : Int) : Key), V.int (x : Int))).length : Nat), .int (ap f (it f j i) : Nat)])) dd = some (.dK ((List.range j).map fun x => ((Sum.inl (it f x i : Int) : Key), V.int (x : Int)))) := by
        rw [upd_ne (ne_of_none hd3 hp2)]; exact hd3
      refine ⟨p2, _, rfl, SqT.of upd_same, rfl, _, _, rfl, _, rfl, _, rfl, dd, _, rfl, DPut.k (k := Sum.inl (it f j i : Int)) hd4 (sz_lt (by rw [List.length_map, List.length_range]; omega)), _, _, rfl, rfl, ?_, ?_, ?_⟩
      · rw [it_succ]; rfl
      · exact ex_mut (e3.trans (ex_new hp2)) dd0
      · rw [upd_same, List.length_map, List.length_range, put_path (fun x => it f x i) j hno]
    | some v =>
      obtain ⟨x, hx, ex, ev⟩ := vp.1 v rfl
      have h2 := hT.step hx hjl hl ex hn
      subst ev
      refine ⟨_, rfl, _, rfl, _, rfl, dd, _, rfl, (ho ▸ DGet.k (k := Sum.inl (it f j i : Int)) hd3), t, x, rfl, ?_⟩
      refine ⟨_, rfl, _, rfl, dd, _, rfl, hd3, _, rfl, _, rfl, dd, _, rfl, (ho ▸ DGet.k (k := Sum.inl (it f j i : Int)) hd3), j, x, by rw [List.length_map, List.length_range], rfl, by omega, _, _, rfl, r, j - x, rfl, rfl, hT.r0, by omega, Nat.le_trans (Nat.le_of_dvd (by decide) hT.rd) (by decide), by omega, ?_⟩
      exact ⟨max t x, Nat.lcm r (j - x), _, _, _, rfl, e3, h2⟩
  · rintro σ H2 ⟨t, r, u, v, w, rfl, e2, hT⟩
    refine ⟨_, rfl, _, rfl, by show 2 ≤ sizeLine; decide, fun p2 hp2 => q t r hT.done p2 _ (e2.trans (ex_new hp2)) (SqT.of upd_same)⟩
end
end Bf
namespace Bf
open PySem PySem.Spec PyProof.Rows L2 RZ PpSet
open C8 (Cal Met Mak Def cal0 met0 mak0 pe_c pe_mk pe_mt pe_mt0 fnScope fnBody InsC call_isC tCut pss_cut)
open Evl (Ex ex_l ex_t ex_rd fresh_back sz_of sz_lt)
section
variable {P : Program} {w : World} {K : PySem.W.Frag} {mg : Str → Option Value} {base : Heap}
abbrev s_checked_row : Stmt := topS 16
abbrev N_checked_row : List Str := ["machine", "value", "at", "command"]
theorem sc_checked_row : FnScope N_checked_row ["machine", "value"] (fnScope s_checked_row) := ⟨rfl, rfl, rfl, by decide +kernel, rfl, by decide +kernel, by decide +kernel⟩
def spRow (K : PySem.W.Frag) (CM : Addr) : Sp := sp2 fun x y H Q => ∃ m a, ∃ (c : Nat) (rows : List (List Nat)) (row : List Nat), x = .ref m ∧ y = .ref a ∧ Mach K CM H m c rows ∧ (SqL K H a (nv row) ∨ SqT K H a (nv row)) ∧ (∀ k ∈ row, k < c) ∧ RetT K (nv row) H Q
theorem c_checked_row {CM : Addr} (d : DefB K mg "checked_row" s_checked_row ["machine", "value"]) (T : Mx K mg CM) (Z : Zb mg) (c_is_index : Cal P w K mg base 3 "is_index" spIndex []) (c_is_sequence : Cal P w K mg base 1 "is_sequence" (spSequence K) []) :
    Cal P w K mg base 4 "checked_row" (spRow K CM) [] := by
  refine cal_of d sc_checked_row len2 fun vs H Q E h f0 cdv A outer s E' hr => ?_
  obtain ⟨x, y, rfl, m, a, c, rows, row, rfl, rfl, ⟨dx, sp, fd, zs, hm, _, _⟩, hx, hk, q⟩ := h
  refine ⟨_, (pss_cons (ps_if (pt_not (pt_val (pe_c c_is_sequence hr (by decide) (by rfl) (pa_cons (pv 1) pa_nil))))
        (pss_one ps_never)
        pss_nil)
      (pss_cons (ps_for PassesOwn.never rfl (pi_enumQ (by rfl) Z.enumerate (pa_cons (pv 1) pa_nil)) (pg_tupK K rfl 2 rfl (pgs_cons (pg_name (i := 2) sc_checked_row.nd rfl (Or.inl rfl)) (pgs_cons (pg_name (i := 3) sc_checked_row.nd rfl (Or.inl rfl)) pgs_nil)))
        (pss_one (ps_if (pt_not (pt_val (pe_c c_is_index hr (by decide) (by rfl) (pa_cons (pv 3) (pa_cons (pe_fldK K rfl (pv 0) rfl) pa_nil)))))
          (pss_one ps_never)
          pss_nil)))
      (pss_one (ps_ret (pe_callTy (call_tupK K) (by rfl) Z.tuple_ (by decide +kernel) (pa_cons (pv 1) pa_nil)))))), ?_⟩
  refine ⟨_, rfl, _, rfl, a, _, rfl, hx, fun H1 e1 => ⟨true, rfl, ?_⟩⟩
  have turn : ∀ (R : VK) (B C : L2.St → Hp → Prop) (i : Nat) (x : V) (t : Addr) (σ : L2.St) (H2 : Hp), (nv row)[i]? = some x → (∃ u v, σ = [some (.ref m), some (.ref a), u, v] ∧ Ex H H2) → H2 t = none →
      gTup K 2 (gCons (gName 2) (gCons (gName 3) gNil)) (.ref t) σ (upd H2 t (.tup [.int (i : Nat), x])) fun σ2 H3 =>
        tIfS (tNot (tB (tCall spIndex [] C8.E0 (tCons (tVar 3) (tCons (tFld K (tVar 0) "commands") tNil))))) tNever tNext
          { nx := fun σ' H' => ∃ u v, σ' = [some (.ref m), some (.ref a), u, v] ∧ Ex H H', rt := R, bk := B, ct := C } σ2 H3 := by
    rintro R B C i x t σ H2 hi ⟨u, v, rfl, e2⟩ ht
    obtain ⟨k, hk2, rfl⟩ := nv_at hi
    have e3 := e2.trans (ex_new (o := .tup [.int (i : Nat), .int (k : Nat)]) ht)
    exact ⟨t, _, rfl, SqT.of upd_same, rfl, _, _, rfl, _, _, rfl, rfl, _, rfl, _, rfl, m, CM, dx, _, _, rfl, e3 _ _ hm, T.cl, T.nC, mf_commands, _, _, rfl, k, c, rfl, rfl, hk k (List.mem_of_getElem? hk2), true, rfl, _, _, rfl, e3⟩
  have fin : ∀ σ H2, (∃ u v, σ = [some (.ref m), some (.ref a), u, v] ∧ Ex H H2) → tRet (tCB (rTupOf K) (tCons (tVar 1) tNil)) { nx := fun _ H' => Q .non H', rt := Q } σ H2 := by
    rintro σ H2 ⟨u, v, rfl, e2⟩
    rcases hx with hx | hx
    · exact ⟨_, rfl, a, _, rfl, .inl ⟨ex_l e2 hx, fun l hl => q l _ (e2.trans (ex_new hl)) (SqT.of upd_same)⟩⟩
    · exact ⟨_, rfl, a, _, rfl, .inr ⟨ex_t e2 hx, q a _ e2 (ex_t e2 hx)⟩⟩
  rcases hx with hx | hx
  · exact Or.inl ⟨_, rfl, a, _, rfl, ex_l e1 hx, for_enL (fun i σ H' => ∃ u v, σ = [some (.ref m), some (.ref a), u, v] ∧ Ex H H') ⟨none, none, rfl, e1⟩ (fun i σ H' _ p => by obtain ⟨u, v, _, e⟩ := p; exact ex_l e hx) (fun i x t σ H2 h1 h2 h3 => turn _ _ _ i x t σ H2 h1 h2 h3) fin⟩
  · exact Or.inr ⟨_, rfl, a, _, rfl, ex_t e1 hx, for_enT (fun i σ H' => ∃ u v, σ = [some (.ref m), some (.ref a), u, v] ∧ Ex H H') ⟨none, none, rfl, e1⟩ (fun i σ H' _ p => by obtain ⟨u, v, _, e⟩ := p; exact ex_t e hx) (fun i x t σ H2 h1 h2 h3 => turn _ _ _ i x t σ H2 h1 h2 h3) fin⟩
abbrev s_change_of : Stmt := topS 22
abbrev N_change_of : List Str := ["machine", "row", "found", "command"]
theorem sc_change_of : FnScope N_change_of ["machine", "row"] (fnScope s_change_of) := ⟨rfl, rfl, rfl, by decide +kernel, rfl, by decide +kernel, by decide +kernel⟩
def spChange (K : PySem.W.Frag) (CM : Addr) : Sp := sp2 fun x y H Q => ∃ m a, ∃ (c : Nat) (rows : List (List Nat)) (row : List Nat), x = .ref m ∧ y = .ref a ∧ Mach K CM H m c rows ∧ MW c rows ∧ (SqL K H a (nv row) ∨ SqT K H a (nv row)) ∧ (∀ k ∈ row, k < c) ∧ row.length ≤ 1000 ∧ RetT K (nv (chOf rows row)) H Q
theorem c_change_of {CM : Addr} (d : DefB K mg "change_of" s_change_of ["machine", "row"]) (T : Mx K mg CM) (Z : Zb mg) (c_idle : Cal P w K mg base 1 "idle" (spIdle K) []) (c_after : Cal P w K mg base 1 "after" (spAfter K) [])
    (c_checked_row : Cal P w K mg base 4 "checked_row" (spRow K CM) []) (c_Machine_does : Met P w K mg base 1 CM "does" (spDoes K CM) []) : Cal P w K mg base 5 "change_of" (spChange K CM) [] := by
  refine cal_of d sc_change_of len2 fun vs H Q E h f0 cdv A outer s E' hr => ?_
  obtain ⟨x, y, rfl, m, a, c, rows, row, rfl, rfl, hM, hw, hx, hk, hrl, q⟩ := h
  obtain ⟨dx, sp, fd, zs, hm, _, _⟩ := id hM
  have nz := hw.nz
  refine ⟨_, (pss_cons (ps_set (i := 2) sc_change_of.nd rfl (Or.inl rfl) (pe_c c_idle hr (by decide) (by rfl) (pa_cons (pe_fldK K rfl (pv 0) rfl) pa_nil)))
      (pss_cons (ps_for PassesOwn.never rfl (pi_tupK K rfl (pe_c c_checked_row hr (by decide) (by rfl) (pa_cons (pv 0) (pa_cons (pv 1) pa_nil)))) (pg_name (i := 3) sc_change_of.nd rfl (Or.inl rfl))
        (pss_one (ps_set (i := 2) sc_change_of.nd rfl (Or.inl rfl) (pe_c c_after hr (by decide) (by rfl) (pa_cons (pv 2) (pa_cons (pe_mt c_Machine_does hr (by decide) (pv 0) (pa_cons (pv 3) pa_nil)) pa_nil))))))
      (pss_one (ps_ret (pv 2))))), ?_⟩
  refine ⟨_, rfl, m, CM, dx, _, _, rfl, hm, T.cl, T.nT, mf_states, _, rfl, rows.length, rfl, by omega, fun p H1 e1 hp => ?_⟩
  refine ⟨_, rfl, _, rfl, _, _, rfl, m, a, c, rows, row, rfl, rfl, hM.ex e1, (hx.elim (fun z => .inl (ex_l e1 z)) fun z => .inr (ex_t e1 z)), hk, fun r H2 e2 hr2 => ?_⟩
  refine ⟨r, rfl, ⟨_, hr2⟩, for_tup (xs := nv row) (fun i σ H' => ∃ p v, σ = [some (.ref m), some (.ref a), some (.ref p), v] ∧ Ex H H' ∧ Ex H2 H' ∧ SqT K H' p (nv (chOf rows (row.take i)))) ⟨p, none, rfl, e1.trans e2, Ex.refl _, ex_t e2 hp⟩ (fun i σ H' _ z => by obtain ⟨p, v, _, _, e, _⟩ := z; exact ex_t e hr2) ?_ ?_⟩
  · rintro i x σ H3 hi ⟨p3, v, rfl, e3, e4, hp3⟩
    obtain ⟨k, hk2, rfl⟩ := nv_at hi
    have hkc := hk k (List.mem_of_getElem? hk2)
    have ok := chOf_ok hw (row.take i) fun k h => hk k (List.mem_of_mem_take h)
    refine ⟨_, rfl, _, rfl, m, dx, _, rfl, e3 _ _ hm, mf_no (by decide +kernel) (by decide +kernel) (by decide +kernel) (by decide +kernel), _, rfl, _, _, rfl, m, c, k, rows, rfl, rfl, hM.ex e3, hw, hkc, fun p4 H4 e5 hp4 => ?_⟩
    refine ⟨_, _, rfl, p3, p4, _, _, rfl, rfl, ex_t e5 hp3, hp4, by rw [ok.1]; omega, fun s hs => by rw [col_len]; have := ok.2 s hs; rwa [ok.1] at this, fun p5 H5 e6 hp5 => ⟨p5, _, rfl, (e3.trans e5).trans e6, (e4.trans e5).trans e6, ?_⟩⟩
    rw [chOf_take hk2]
    exact hp5
  · rintro σ H3 ⟨p3, v, rfl, e3, e4, hp3⟩
    rw [nv_len, List.take_length] at hp3
    exact ⟨_, rfl, q p3 _ e3 hp3⟩
abbrev s_reach_of : Stmt := topS 24
abbrev N_reach_of : List Str := ["first", "second"]
theorem sc_reach_of : FnScope N_reach_of ["first", "second"] (fnScope s_reach_of) := ⟨rfl, rfl, rfl, by decide +kernel, rfl, by decide +kernel, by decide +kernel⟩
def spReach (K : PySem.W.Frag) : Sp := sp2 fun x y H Q => ∃ a b, ∃ f g : List Nat, x = .ref a ∧ y = .ref b ∧ SqT K H a (nv f) ∧ SqT K H b (nv g) ∧ Chg f ∧ Chg g ∧ f.length ≤ 16 ∧ g.length ≤ 16 ∧
  ∀ t r t' r' H', TR f t r → TR g t' r' → Ex H H' → Q (.int (max t t' : Nat)) H'
theorem c_reach_of (d : DefB K mg "reach_of" s_reach_of ["first", "second"]) (Z : Zb mg) (c_tail_and_ring : Cal P w K mg base 3 "tail_and_ring" (spTail K) []) : Cal P w K mg base 4 "reach_of" (spReach K) [] := by
  refine cal_of d sc_reach_of len2 fun vs H Q E h f0 cdv A outer s E' hr => ?_
  obtain ⟨x, y, rfl, a, b, f, g, rfl, rfl, ha, hb, hf, hg, lf, lg, q⟩ := h
  refine ⟨_, (pss_one (ps_ret (pe_callB (cn_max2 rfl) (by rfl) Z.max_ (by decide +kernel) (pa_cons (pe_ix (ix_tupK K) (pe_c c_tail_and_ring hr (by decide) (by rfl) (pa_cons (pv 0) pa_nil)) pe_int (fun _ _ => rfl)) (pa_cons (pe_ix (ix_tupK K) (pe_c c_tail_and_ring hr (by decide) (by rfl) (pa_cons (pv 1) pa_nil)) pe_int (fun _ _ => rfl)) pa_nil))))), ?_⟩
  refine ⟨_, rfl, _, rfl, a, f, rfl, ha, hf, lf, fun t r hT p H1 e1 hp => ⟨p, _, 0, _, rfl, rfl, hp, atI_nat (j := 0) rfl, ?_⟩⟩
  exact ⟨_, rfl, _, rfl, b, g, rfl, ex_t e1 hb, hg, lg, fun t' r' hT' p' H2 e2 hp' => ⟨p', _, 0, _, rfl, rfl, hp', atI_nat (j := 0) rfl, t, t', rfl, q t r t' r' H2 hT hT' (e1.trans e2)⟩⟩
abbrev s_both_rings : Stmt := topS 25
abbrev N_both_rings : List Str := ["first", "second"]
theorem sc_both_rings : FnScope N_both_rings ["first", "second"] (fnScope s_both_rings) := ⟨rfl, rfl, rfl, by decide +kernel, rfl, by decide +kernel, by decide +kernel⟩
def spRings (K : PySem.W.Frag) : Sp := sp2 fun x y H Q => ∃ a b, ∃ f g : List Nat, x = .ref a ∧ y = .ref b ∧ SqT K H a (nv f) ∧ SqT K H b (nv g) ∧ Chg f ∧ Chg g ∧ f.length ≤ 16 ∧ g.length ≤ 16 ∧
  ∀ t r t' r' H', TR f t r → TR g t' r' → Ex H H' → Q (.int (Nat.lcm r r' : Nat)) H'
theorem c_both_rings (d : DefB K mg "both_rings" s_both_rings ["first", "second"]) (Z : Zb mg) (c_common_multiple : Cal P w K mg base 2 "common_multiple" spMultiple []) (c_tail_and_ring : Cal P w K mg base 3 "tail_and_ring" (spTail K) []) :
    Cal P w K mg base 4 "both_rings" (spRings K) [] := by
  refine cal_of d sc_both_rings len2 fun vs H Q E h f0 cdv A outer s E' hr => ?_
  obtain ⟨x, y, rfl, a, b, f, g, rfl, rfl, ha, hb, hf, hg, lf, lg, q⟩ := h
  refine ⟨_, (pss_one (ps_ret (pe_c c_common_multiple hr (by decide) (by rfl) (pa_cons (pe_ix (ix_tupK K) (pe_c c_tail_and_ring hr (by decide) (by rfl) (pa_cons (pv 0) pa_nil)) pe_int (fun _ _ => rfl)) (pa_cons (pe_ix (ix_tupK K) (pe_c c_tail_and_ring hr (by decide) (by rfl) (pa_cons (pv 1) pa_nil)) pe_int (fun _ _ => rfl)) pa_nil))))), ?_⟩
  refine ⟨_, rfl, _, rfl, a, f, rfl, ha, hf, lf, fun t r hT p H1 e1 hp => ⟨p, _, 1, _, rfl, rfl, hp, atI_nat (j := 1) rfl, ?_⟩⟩
  refine ⟨_, rfl, _, rfl, b, g, rfl, ex_t e1 hb, hg, lg, fun t' r' hT' p' H2 e2 hp' => ⟨p', _, 1, _, rfl, rfl, hp', atI_nat (j := 1) rfl, _, _, rfl, r, r', rfl, rfl, hT.r0, hT'.r0, ?_, ?_, q t r t' r' H2 hT hT' (e1.trans e2)⟩⟩
  · exact Nat.le_trans (Nat.le_of_dvd (by decide) hT.rd) (by decide)
  · exact Nat.le_trans (Nat.le_of_dvd (by decide) hT'.rd) (by decide)
abbrev s_from_on : Stmt := topS 26
abbrev N_from_on : List Str := ["number", "least"]
theorem sc_from_on : FnScope N_from_on ["number", "least"] (fnScope s_from_on) := ⟨rfl, rfl, rfl, by decide +kernel, rfl, by decide +kernel, by decide +kernel⟩
def spFromOn : Sp := sp2 fun x y H Q => ∃ n l : Nat, x = .int n ∧ y = .int l ∧ 0 < n ∧ n ≤ 1000000 ∧ Q (.int (upTo n l : Nat)) H
theorem upTo_int {n l : Nat} (hn : 0 < n) : -(Int.fdiv (-(l : Int)) (n : Int)) * (n : Int) = ((upTo n l : Nat) : Int) := by
  rw [Int.fdiv_eq_ediv_of_nonneg _ (by omega)]
  have h1 := Int.emod_add_mul_ediv (-(l : Int)) (n : Int)
  have h2 := Int.emod_nonneg (-(l : Int)) (b := (n : Int)) (by omega)
  have h3 := Int.emod_lt_of_pos (-(l : Int)) (b := (n : Int)) (by omega)
  generalize hr : (-(l : Int)) % (n : Int) = r at h1 h2 h3
  generalize hq : (-(l : Int)) / (n : Int) = z at h1
  have h4 : (n : Int) * z = - ((l : Int) + r) := by omega
  have zn : z ≤ 0 := by
    apply Int.le_of_not_gt
    intro hz
    have : 0 < (n : Int) * z := Int.mul_pos (by omega) hz
    omega
  obtain ⟨k, hk⟩ : ∃ k : Nat, -z = (k : Int) := ⟨(-z).toNat, by omega⟩
  obtain ⟨r', hr'⟩ : ∃ r' : Nat, r = (r' : Int) := ⟨r.toNat, by omega⟩
  have h5 : ((k * n : Nat) : Int) = ((l + r' : Nat) : Int) := by
    rw [Int.natCast_mul, ← hk, Int.neg_mul, Int.mul_comm, h4, hr']
    omega
  have h6 : k * n = l + r' := Int.ofNat.inj h5
  rw [hk]
  have h7 : (l + n - 1) / n = k := by
    have e : l + n - 1 = (n - 1 - r') + k * n := by omega
    rw [e, Nat.add_mul_div_right _ _ hn, Nat.div_eq_of_lt (by omega), Nat.zero_add]
  unfold upTo
  rw [h7]
  rfl
theorem c_from_on (d : DefB K mg "from_on" s_from_on ["number", "least"]) (Z : Zb mg) : Cal P w K mg base 1 "from_on" spFromOn [] := by
  refine cal_of d sc_from_on len2 fun vs H Q E h f0 cdv A outer s E' hr => ?_
  obtain ⟨x, y, rfl, n, l, rfl, rfl, hn, hz, q⟩ := h
  refine ⟨_, (pss_one (ps_ret (pe_op op_mul (pe_un un_neg (pe_op op_fdivN (pe_un un_neg (pv 1)) (pv 0))) (pv 0)))), ?_⟩
  refine ⟨_, rfl, l, rfl, _, rfl, _, n, rfl, rfl, ⟨by omega, by omega⟩, _, rfl, _, rfl, _, n, rfl, rfl, .inr ⟨by omega, by omega⟩, ?_⟩
  show Q (.int (-(Int.fdiv (-(l : Int)) (n : Int)) * (n : Int))) H
  rw [upTo_int hn]
  exact q
abbrev s_agree : Stmt := topS 28
abbrev N_agree : List Str := ["first", "second", "count"]
theorem sc_agree : FnScope N_agree ["first", "second", "count"] (fnScope s_agree) := ⟨rfl, rfl, rfl, by decide +kernel, rfl, by decide +kernel, by decide +kernel⟩
def spAgree (K : PySem.W.Frag) : Sp := sp3 fun x y z H Q => ∃ a b, ∃ (f g : List Nat) (n : Nat), x = .ref a ∧ y = .ref b ∧ z = .int n ∧ SqT K H a (nv f) ∧ SqT K H b (nv g) ∧ Chg f ∧ Chg g ∧ f.length ≤ 5000 ∧ g.length ≤ 5000 ∧
  ∀ H', Ex H H' → Q (.bl (decide (pw f n = pw g n))) H'
theorem c_agree (d : DefB K mg "agree" s_agree ["first", "second", "count"]) (Z : Zb mg) (c_raised : Cal P w K mg base 2 "raised" (spRaised K) []) : Cal P w K mg base 3 "agree" (spAgree K) [] := by
  refine cal_of d sc_agree len3 fun vs H Q E h f0 cdv A outer s E' hr => ?_
  obtain ⟨x, y, z, rfl, a, b, f, g, n, rfl, rfl, rfl, ha, hb, hf, hg, lf, lg, q⟩ := h
  refine ⟨_, (pss_one (ps_ret (pe_cmpR (op_eqK K rfl hr.units) (pe_c c_raised hr (by decide) (by rfl) (pa_cons (pv 0) (pa_cons (pv 2) pa_nil))) (pe_c c_raised hr (by decide) (by rfl) (pa_cons (pv 1) (pa_cons (pv 2) pa_nil))) (nomark _)))), ?_⟩
  refine ⟨_, rfl, _, rfl, _, _, rfl, a, f, n, rfl, rfl, ha, hf, lf, fun p H1 e1 hp => ?_⟩
  exact ⟨_, rfl, _, rfl, _, _, rfl, b, g, n, rfl, rfl, ex_t e1 hb, hg, lg, fun p' H2 e2 hp' => rdEqT (ex_t e2 hp) hp' (q _ (e1.trans e2))⟩
abbrev s_primes_of : Stmt := topS 27
abbrev N_primes_of : List Str := ["number", "found", "prime"]
theorem sc_primes_of : FnScope N_primes_of ["number"] (fnScope s_primes_of) := ⟨rfl, rfl, rfl, by decide +kernel, rfl, by decide +kernel, by decide +kernel⟩
def spPrimes (K : PySem.W.Frag) : Sp := sp1 fun x H Q => ∃ n : Nat, x = .int n ∧ 0 < n ∧ n ≤ 1000000 ∧ ∀ p ps H', Ex H H' → H' p = some (.lst (nv ps)) → Primes n ps → Q (.ref p) H'
theorem c_primes_of (d : DefB K mg "primes_of" s_primes_of ["number"]) (Z : Zb mg) : Cal P w K mg base 1 "primes_of" (spPrimes K) [] := by
  refine cal_of d sc_primes_of len1 fun vs H Q E h f0 cdv A outer s E' hr => ?_
  obtain ⟨x, rfl, n, rfl, hn, hz, q⟩ := h
  refine ⟨_, (pss_cons (ps_par (i := 1) (j := 2) (by rfl) sc_primes_of.nd rfl rfl (by decide) rfl rfl (pa_cons (pe_lst pa_nil) (pa_cons pe_int pa_nil)) (by rfl))
      (pss_cons (ps_while PassesOwn.never (pt_cmpR on_gt (pv 0) pe_int (nomark _))
        (pss_cons (ps_if (pt_cmpR on_eq (pe_op on_mod (pv 0) (pv 2)) pe_int (nomark _))
          (pss_one (ps_expr (pe_bm PySem.F.plainAttrs_list PySem.F.slot_list_append PySem.F.type_list_append mt_append (pv 1) (pa_cons (pv 2) pa_nil))))
          pss_nil)
        (pss_cons (ps_while PassesOwn.never (pt_cmpR on_eq (pe_op on_mod (pv 0) (pv 2)) pe_int (nomark _))
          (pss_one (ps_set (i := 0) sc_primes_of.nd rfl (Or.inl rfl) (pe_op on_fdiv (pv 0) (pv 2)))))
        (pss_one (ps_set (i := 2) sc_primes_of.nd rfl (Or.inl rfl) (pe_op on_add (pv 2) pe_int))))))
      (pss_one (ps_ret (pv 1))))), ?_⟩
  refine ⟨Nat.zero_le _, fun l hl => ⟨_, _, rfl, ?_⟩⟩
  refine ⟨fun μ σ H' => ∃ m p ps, μ = m + 1 - p ∧ σ = [some (.int (m : Nat)), some (.ref l), some (.int (p : Nat))] ∧ Ex H H' ∧ H' l = some (.lst (nv ps)) ∧ ps.length + 2 ≤ p ∧ PrI n p m ps, ⟨n + 1 - 2, n, 2, [], rfl, rfl, ex_new hl, upd_same, by decide, PrI.start hn⟩, ?_⟩
  rintro μ σ H2 ⟨m, p, ps, rfl, rfl, e2, h2, hps, hI⟩
  refine ⟨_, rfl, m, 1, rfl, rfl, _, rfl, ?_⟩
  by_cases hm : 1 < m
  · rw [decide_eq_true hm]
    have hpm := hI.p_le hm
    have mn := hI.mn
    have p2 := hI.p2
    refine ⟨fun σ' H' => ∃ m' ps', σ' = [some (.int (m' : Nat)), some (.ref l), some (.int (p + 1 : Nat))] ∧ Ex H H' ∧ H' l = some (.lst (nv ps')) ∧ ps'.length + 1 ≤ p ∧ m' ≤ m ∧ PrI n (p + 1) m' ps', ?_, ?_⟩
    · rintro σ' H3 ⟨m', ps', h1, h2, h3, h4, h5, h6⟩
      exact ⟨m' + 1 - (p + 1), by omega, m', p + 1, ps', rfl, h1, h2, h3, by omega, h6⟩
    · -- the inner loop and the next prime
      have rest : ∀ ps' H3, Ex H H3 → H3 l = some (.lst (nv ps')) → ps'.length + 1 ≤ p → PrI n p m ps' → (m % p = 0 → p ∈ ps') →
          tSeq (tWhile (tTest (tOp (rN fun n m => .bl (decide (n = m))) (tOp (rNc (fun _ m => 0 < m) fun n m => .int ((n % m : Nat) : Int)) (tVar 0) (tVar 2)) (tC (.int 0)))) (tAsg (tOp (rNc (fun _ m => 0 < m ∧ m < 1073741824) fun n m => .int ((n / m : Nat) : Int)) (tVar 0) (tVar 2)) (gName 0)))
            (tAsg (tOp (rN fun n m => .int ((n + m : Nat) : Int)) (tVar 2) (tC (.int 1))) (gName 2))
            { nx := fun σ' H' => ∃ m' ps', σ' = [some (.int (m' : Nat)), some (.ref l), some (.int (p + 1 : Nat))] ∧ Ex H H' ∧ H' l = some (.lst (nv ps')) ∧ ps'.length + 1 ≤ p ∧ m' ≤ m ∧ PrI n (p + 1) m' ps', rt := Q }
            [some (.int (m : Nat)), some (.ref l), some (.int (p : Nat))] H3 := by
        intro ps' H3 e3 h3 hl3 hI3 hin
        refine ⟨fun ν σ H' => ν ≤ m ∧ σ = [some (.int (ν : Nat)), some (.ref l), some (.int (p : Nat))] ∧ H' = H3 ∧ PrI n p ν ps' ∧ (ν % p = 0 → p ∈ ps'), ⟨m, Nat.le_refl _, rfl, rfl, hI3, hin⟩, ?_⟩
        rintro ν σ H4 ⟨hν, rfl, rfl, hI4, hin4⟩
        refine ⟨_, rfl, _, rfl, ν, p, rfl, rfl, by omega, ν % p, 0, rfl, rfl, _, rfl, ?_⟩
        by_cases h0 : ν % p = 0
        · rw [decide_eq_true h0]
          have ν0 := hI4.m0
          have hlt : ν / p < ν := Nat.div_lt_self ν0 (by omega)
          refine ⟨fun σ' H' => σ' = [some (.int (ν / p : Nat)), some (.ref l), some (.int (p : Nat))] ∧ H' = H4, fun σ' H' h => ⟨ν / p, hlt, by omega, h.1, h.2, hI4.div (hin4 h0) h0, fun _ => hin4 h0⟩, _, rfl, _, rfl, ν, p, rfl, rfl, ⟨by omega, by omega⟩, rfl, rfl⟩
        · rw [decide_eq_false h0]
          exact ⟨_, rfl, p, 1, rfl, rfl, ν, ps', rfl, e3, h3, hl3, hν, hI4.next h0⟩
      refine ⟨_, rfl, _, rfl, m, p, rfl, rfl, by omega, m % p, 0, rfl, rfl, _, rfl, ?_⟩
      by_cases h0 : m % p = 0
      · rw [decide_eq_true h0]
        refine ⟨_, rfl, .inl ⟨rfl, _, SqL.of h2⟩, _, rfl, l, _, _, rfl, rfl, h2, (by rw [nv_len]; exact Nat.lt_of_lt_of_le (show ps.length < 1000001 by omega) (by decide)), ?_⟩
        refine rest (ps ++ [p]) _ (ex_mut e2 hl) (by rw [upd_same, nv_snoc]) (by rw [List.length_append, List.length_singleton]; omega) hI.add fun _ => List.mem_append_right _ (List.mem_singleton.mpr rfl)
      · rw [decide_eq_false h0]
        exact rest ps H2 e2 h2 (by omega) hI fun h => absurd h h0
  · rw [decide_eq_false hm]
    exact ⟨_, rfl, q l ps H2 e2 h2 (hI.done hm)⟩
end
end Bf
namespace Bf
open PySem PySem.Spec PyProof.Rows L2 RZ PpSet
open C8 (Cal Met Mak Def cal0 met0 mak0 pe_c pe_mk pe_mt pe_mt0 fnScope fnBody InsC call_isC tCut pss_cut)
open Evl (Ex ex_l ex_t ex_rd fresh_back sz_of sz_lt)
section
variable {P : Program} {w : World} {K : PySem.W.Frag} {mg : Str → Option Value} {base : Heap}
def EndE (A : Nat → Prop) (T e : Nat) : Prop := (e = 0 ∧ ∀ c, A c → c = 0) ∨ (0 < e ∧ e ≤ 1000000 ∧ ∀ c, T ≤ c → (A c ↔ e ∣ c))
theorem lcm_le {f g : List Nat} {t r t' r' : Nat} (a : TR f t r) (b : TR g t' r') : Nat.lcm r r' ≤ 720720 ∧ 0 < Nat.lcm r r' := ⟨Nat.le_of_dvd (by decide) (Nat.lcm_dvd a.rd b.rd), Nat.lcm_pos a.r0 b.r0⟩
abbrev s_end_of : Stmt := topS 29
abbrev N_end_of : List Str := ["first", "second", "rings", "far", "found", "prime"]
theorem sc_end_of : FnScope N_end_of ["first", "second"] (fnScope s_end_of) := ⟨rfl, rfl, rfl, by decide +kernel, rfl, by decide +kernel, by decide +kernel⟩
def spEnd (K : PySem.W.Frag) : Sp := sp2 fun x y H Q => ∃ a b, ∃ f g : List Nat, x = .ref a ∧ y = .ref b ∧ SqT K H a (nv f) ∧ SqT K H b (nv g) ∧ Two f g ∧ f.length ≤ 16 ∧
  ∀ t r t' r' e H', TR f t r → TR g t' r' → EndE (Ag f g) (max t t') e → Ex H H' → Q (.int (e : Nat)) H'
theorem c_end_of (d : DefB K mg "end_of" s_end_of ["first", "second"]) (Z : Zb mg) (c_both_rings : Cal P w K mg base 4 "both_rings" (spRings K) []) (c_reach_of : Cal P w K mg base 4 "reach_of" (spReach K) [])
    (c_from_on : Cal P w K mg base 1 "from_on" spFromOn []) (c_agree : Cal P w K mg base 3 "agree" (spAgree K) []) (c_primes_of : Cal P w K mg base 1 "primes_of" (spPrimes K) []) : Cal P w K mg base 5 "end_of" (spEnd K) [] := by
  refine cal_of d sc_end_of len2 fun vs H Q E h f0 cdv A outer s E' hr => ?_
  obtain ⟨x, y, rfl, a, b, f, g, rfl, rfl, ha, hb, hT, lf, q⟩ := h
  have lg : g.length ≤ 16 := by rw [← hT.len]; exact lf
  refine ⟨_, (pss_cons (ps_set (i := 2) sc_end_of.nd rfl (Or.inl rfl) (pe_c c_both_rings hr (by decide) (by rfl) (pa_cons (pv 0) (pa_cons (pv 1) pa_nil))))
      (pss_cons (ps_set (i := 3) sc_end_of.nd rfl (Or.inl rfl) (pe_c c_from_on hr (by decide) (by rfl) (pa_cons (pv 2) (pa_cons (pe_c c_reach_of hr (by decide) (by rfl) (pa_cons (pv 0) (pa_cons (pv 1) pa_nil))) pa_nil))))
      (pss_cons (ps_if (pt_not (pt_val (pe_c c_agree hr (by decide) (by rfl) (pa_cons (pv 0) (pa_cons (pv 1) (pa_cons (pe_op on_add (pv 3) (pv 2)) pa_nil))))))
        (pss_one (ps_ret pe_int))
        pss_nil)
      (pss_cons (ps_set (i := 4) sc_end_of.nd rfl (Or.inl rfl) (pv 2))
      (pss_cons (ps_for PassesOwn.never rfl (pi_listK K rfl (pe_c c_primes_of hr (by decide) (by rfl) (pa_cons (pv 2) pa_nil))) (pg_name (i := 5) sc_end_of.nd rfl (Or.inl rfl))
        (pss_one (ps_while PassesOwn.never (PW.pt (pw_and (pt_cmpR on_eq (pe_op on_mod (pv 4) (pv 5)) pe_int (nomark _)) (pw_and1 (pt_val (pe_c c_agree hr (by decide) (by rfl) (pa_cons (pv 0) (pa_cons (pv 1) (pa_cons (pe_op on_add (pv 3) (pe_op on_fdiv (pv 4) (pv 5))) pa_nil))))))))
          (pss_one (ps_set (i := 4) sc_end_of.nd rfl (Or.inl rfl) (pe_op on_fdiv (pv 4) (pv 5)))))))
      (pss_one (ps_ret (pv 4)))))))), ?_⟩
  refine ⟨_, rfl, _, rfl, _, _, rfl, a, b, f, g, rfl, rfl, ha, hb, hT.cf, hT.cg, lf, lg, fun t r t' r' H1 tr tr' e1 => ?_⟩
  obtain ⟨Rz, R0⟩ := lcm_le tr tr'
  refine ⟨_, rfl, _, rfl, _, rfl, _, _, rfl, a, b, f, g, rfl, rfl, ex_t e1 ha, ex_t e1 hb, hT.cf, hT.cg, lf, lg, fun u v u' v' H2 tu tu' e2 => ?_⟩
  obtain rfl := tr.uniq tu
  obtain rfl := tr'.uniq tu'
  have hP := hT.peri tr tr'
  have hA := hT.closed
  have e3 := e1.trans e2
  have TZ : max t t' ≤ 16 := Nat.max_le.mpr ⟨Nat.le_trans tr.t_le lf, Nat.le_trans tr'.t_le lg⟩
  have hTf := upTo_ge (l := max t t') R0
  have hRf := upTo_dvd (Nat.lcm r r') (max t t')
  have hlf := upTo_lt (l := max t t') R0
  refine ⟨_, _, rfl, Nat.lcm r r', max t t', rfl, rfl, R0, by omega, ?_⟩
  generalize hfar : upTo (Nat.lcm r r') (max t t') = far at hTf hRf hlf
  generalize hRR : Nat.lcm r r' = R at Rz R0 hP hRf hlf
  refine ⟨_, rfl, _, rfl, _, rfl, _, rfl, far, R, rfl, rfl, _, _, _, rfl, a, b, f, g, far + R, rfl, rfl, rfl, ex_t e3 ha, ex_t e3 hb, hT.cf, hT.cg, by omega, by omega, fun H3 e4 => ⟨_, rfl, ?_⟩⟩
  have e5 := e3.trans e4
  by_cases hag : pw f (far + R) = pw g (far + R)
  · rw [decide_eq_true hag]
    have hag' : Ag f g (far + R) := hag
    refine ⟨_, rfl, _, rfl, _, rfl, R, rfl, R0, by omega, fun l ps H4 e6 hl hps => ?_⟩
    have e7 := e5.trans e6
    refine ⟨l, rfl, ⟨_, SqL.of hl⟩, for_list (xs := nv ps) (fun i σ H' => ∃ e v, σ = [some (.ref a), some (.ref b), some (.int (R : Nat)), some (.int (far : Nat)), some (.int (e : Nat)), v] ∧ Ex H H' ∧ Ex H4 H' ∧ EI (Ag f g) far R e (ps.take i))
      ⟨R, none, rfl, e7, Ex.refl _, EI.start hA hP hRf hTf hag'⟩ (fun i σ H' _ z => by obtain ⟨_, _, _, _, e, _⟩ := z; exact SqL.of (e _ _ hl)) ?_ ?_⟩
    · rintro i x σ H5 hi ⟨e, v, rfl, e8, e9, hI⟩
      obtain ⟨p, hp, rfl⟩ := nv_at hi
      have p2 := hps.two p (List.mem_of_getElem? hp)
      have etake : ps.take (i + 1) = ps.take i ++ [p] := by rw [List.take_add_one, hp]; rfl
      refine ⟨fun μ σ H' => σ = [some (.ref a), some (.ref b), some (.int (R : Nat)), some (.int (far : Nat)), some (.int (μ : Nat)), some (.int (p : Nat))] ∧ Ex H H' ∧ Ex H4 H' ∧ EI (Ag f g) far R μ (ps.take i), ⟨e, rfl, e8, e9, hI⟩, ?_⟩
      rintro μ σ H6 ⟨rfl, e10, e11, hI6⟩
      have μ0 := hI6.e0
      have μR := Nat.le_of_dvd R0 hI6.eR
      by_cases hd : μ % p = 0
      · have hdv : μ / p < μ := Nat.div_lt_self μ0 (by omega)
        have pμ : p ≤ μ := Nat.le_of_dvd μ0 (Nat.dvd_of_mod_eq_zero hd)
        refine ⟨_, rfl, _, rfl, μ, p, rfl, rfl, by omega, μ % p, 0, rfl, rfl, _, rfl, ?_⟩
        rw [decide_eq_true hd]
        refine ⟨_, rfl, _, rfl, _, rfl, _, rfl, _, rfl, μ, p, rfl, rfl, ⟨by omega, by omega⟩, far, μ / p, rfl, rfl, _, _, _, rfl, a, b, f, g, far + μ / p, rfl, rfl, rfl, ex_t e10 ha, ex_t e10 hb, hT.cf, hT.cg, by omega, by omega, fun H7 e12 => ⟨_, rfl, ?_⟩⟩
        by_cases hag2 : pw f (far + μ / p) = pw g (far + μ / p)
        · rw [decide_eq_true hag2]
          refine ⟨fun σ' H' => σ' = [some (.ref a), some (.ref b), some (.int (R : Nat)), some (.int (far : Nat)), some (.int (μ / p : Nat)), some (.int (p : Nat))] ∧ Ex H H' ∧ Ex H4 H', fun σ' H' h => ⟨μ / p, hdv, h.1, h.2.1, h.2.2, hI6.div hA hP hRf hTf hag' (by omega) hd hag2⟩, ?_⟩
          exact ⟨_, rfl, _, rfl, μ, p, rfl, rfl, ⟨by omega, by omega⟩, rfl, e10.trans e12, e11.trans e12⟩
        · rw [decide_eq_false hag2]
          refine ⟨μ, _, rfl, e10.trans e12, e11.trans e12, ?_⟩
          rw [etake]
          exact hI6.next fun _ => hag2
      · refine ⟨_, rfl, _, rfl, μ, p, rfl, rfl, by omega, μ % p, 0, rfl, rfl, _, rfl, ?_⟩
        rw [decide_eq_false hd]
        refine ⟨μ, _, rfl, e10, e11, ?_⟩
        rw [etake]
        exact hI6.next fun h => absurd h hd
    · rintro σ H5 ⟨e, v, rfl, e8, e9, hI⟩
      rw [nv_len, List.take_length] at hI
      have eR := Nat.le_of_dvd R0 hI.eR
      have hdone := EI.done hA hP hRf hTf hI hps
      exact ⟨_, rfl, q t r t' r' e H5 tr tr' (.inr ⟨hdone.1, by omega, hdone.2⟩) e8⟩
  · rw [decide_eq_false hag]
    exact q t r t' r' 0 H3 tr tr' (.inl ⟨rfl, none_far hA hP hRf hTf hag⟩) e5
abbrev s_near_counts : Stmt := topS 30
abbrev N_near_counts : List Str := ["first", "second", "found", "one", "other", "count"]
theorem sc_near_counts : FnScope N_near_counts ["first", "second"] (fnScope s_near_counts) := ⟨rfl, rfl, rfl, by decide +kernel, rfl, by decide +kernel, by decide +kernel⟩
def spNear (K : PySem.W.Frag) : Sp := sp2 fun x y H Q => ∃ a b, ∃ f g : List Nat, x = .ref a ∧ y = .ref b ∧ SqT K H a (nv f) ∧ SqT K H b (nv g) ∧ Two f g ∧ f.length ≤ 16 ∧
  ∀ t r t' r' p H', TR f t r → TR g t' r' → Ex H H' → H' p = some (.lst (nv ((List.range (max t t')).filter fun c => decide (Ag f g c)))) → Q (.ref p) H'
theorem pw_succ {f : List Nat} (hf : Chg f) (n : Nat) : cmp (pw f n) f = pw f (n + 1) := by
  have := cmp_pw hf n 1
  rwa [pw_one] at this
theorem c_near_counts (d : DefB K mg "near_counts" s_near_counts ["first", "second"]) (Z : Zb mg) (c_reach_of : Cal P w K mg base 4 "reach_of" (spReach K) [])
    (c_idle : Cal P w K mg base 1 "idle" (spIdle K) []) (c_after : Cal P w K mg base 1 "after" (spAfter K) []) : Cal P w K mg base 5 "near_counts" (spNear K) [] := by
  refine cal_of d sc_near_counts len2 fun vs H Q E h f0 cdv A outer s E' hr => ?_
  obtain ⟨x, y, rfl, a, b, f, g, rfl, rfl, ha, hb, hT, lf, q⟩ := h
  have hle := hT.len
  have lg : g.length ≤ 16 := by rw [← hT.len]; exact lf
  refine ⟨_, (pss_cons (ps_par3 (i := 2) (j := 3) (l := 4) (by rfl) sc_near_counts.nd rfl rfl rfl (by decide) (by decide) (by decide) rfl rfl rfl (pa_cons (pe_lst pa_nil) (pa_cons (pe_c c_idle hr (by decide) (by rfl) (pa_cons (pe_callB (call_lenK K) (by rfl) Z.len (by decide +kernel) (pa_cons (pv 0) pa_nil)) pa_nil)) (pa_cons (pe_c c_idle hr (by decide) (by rfl) (pa_cons (pe_callB (call_lenK K) (by rfl) Z.len (by decide +kernel) (pa_cons (pv 0) pa_nil)) pa_nil)) pa_nil))) (by rfl))
      (pss_cons (ps_for PassesOwn.never rfl (pi_range1 (by rfl) Z.range (pa_cons (pe_c c_reach_of hr (by decide) (by rfl) (pa_cons (pv 0) (pa_cons (pv 1) pa_nil))) pa_nil)) (pg_name (i := 5) sc_near_counts.nd rfl (Or.inl rfl))
        (pss_cons (ps_if (pt_cmpR (op_eqK K rfl hr.units) (pv 3) (pv 4) (nomark _))
          (pss_one (ps_expr (pe_bm PySem.F.plainAttrs_list PySem.F.slot_list_append PySem.F.type_list_append mt_append (pv 2) (pa_cons (pv 5) pa_nil))))
          pss_nil)
        (pss_one (ps_par (i := 3) (j := 4) (by rfl) sc_near_counts.nd rfl rfl (by decide) rfl rfl (pa_cons (pe_c c_after hr (by decide) (by rfl) (pa_cons (pv 3) (pa_cons (pv 0) pa_nil))) (pa_cons (pe_c c_after hr (by decide) (by rfl) (pa_cons (pv 4) (pa_cons (pv 1) pa_nil))) pa_nil)) (by rfl)))))
      (pss_one (ps_ret (pv 2))))), ?_⟩
  refine ⟨Nat.zero_le _, fun l hl => ?_⟩
  have e0 := ex_new (o := .lst []) hl
  have hl0 : (upd H l (.lst [])) l = some (.lst []) := upd_same
  refine ⟨_, rfl, a, _, rfl, .inr (ex_t e0 ha), _, rfl, f.length, by rw [nv_len], by omega, fun p1 H1 e1 h1 => ?_⟩
  have e01 := e0.trans e1
  refine ⟨_, rfl, a, _, rfl, .inr (ex_t e01 ha), _, rfl, f.length, by rw [nv_len], by omega, fun p2 H2 e2 h2 => ?_⟩
  have e02 := e01.trans e2
  refine ⟨_, _, _, rfl, ?_⟩
  refine ⟨_, rfl, _, rfl, _, _, rfl, a, b, f, g, rfl, rfl, ex_t e02 ha, ex_t e02 hb, hT.cf, hT.cg, lf, lg, fun t r t' r' H3 tr tr' e3 => ?_⟩
  have TZ : max t t' ≤ 16 := Nat.max_le.mpr ⟨Nat.le_trans tr.t_le lf, Nat.le_trans tr'.t_le lg⟩
  refine ⟨_, rfl, by omega, by omega, for_rng (n := max t t') (fun i σ H' => ∃ p1 p2 v, σ = [some (.ref a), some (.ref b), some (.ref l), some (.ref p1), some (.ref p2), v] ∧ Ex H H' ∧ H' l = some (.lst (nv ((List.range i).filter fun c => decide (Ag f g c)))) ∧ SqT K H' p1 (nv (pw f i)) ∧ SqT K H' p2 (nv (pw g i)))
    ⟨p1, p2, none, rfl, e02.trans e3, e3 _ _ (e2 _ _ (e1 _ _ hl0)), by rw [pw_zero]; exact ex_t e3 (ex_t e2 h1), by rw [pw_zero, ← hle]; exact ex_t e3 h2⟩ ?_ ?_⟩
  · rintro i σ H4 hi ⟨q1, q2, v, rfl, e4, h4, h5, h6⟩
    -- the next powers, from any list
    have rest : ∀ (xs : List Nat) (H5 : Hp) (R : VK) (B C : L2.St → Hp → Prop), Ex H H5 → H5 l = some (.lst (nv xs)) → SqT K H5 q1 (nv (pw f i)) → SqT K H5 q2 (nv (pw g i)) → xs = (List.range (i + 1)).filter (fun c => decide (Ag f g c)) →
        tPar 3 4 (tCons (tCall (spAfter K) [] C8.E0 (tCons (tVar 3) (tCons (tVar 0) tNil))) (tCons (tCall (spAfter K) [] C8.E0 (tCons (tVar 4) (tCons (tVar 1) tNil))) tNil))
          { nx := fun σ H' => ∃ p1 p2 v, σ = [some (.ref a), some (.ref b), some (.ref l), some (.ref p1), some (.ref p2), v] ∧ Ex H H' ∧ H' l = some (.lst (nv ((List.range (i + 1)).filter fun c => decide (Ag f g c)))) ∧ SqT K H' p1 (nv (pw f (i + 1))) ∧ SqT K H' p2 (nv (pw g (i + 1))), rt := R, bk := B, ct := C }
          [some (.ref a), some (.ref b), some (.ref l), some (.ref q1), some (.ref q2), some (.int (i : Nat))] H5 := by
      intro xs H5 R B C e5 h7 h8 h9 hx
      refine ⟨_, rfl, _, rfl, _, _, rfl, q1, a, _, _, rfl, rfl, h8, ex_t e5 ha, by rw [pw_len]; omega, fun s hs => by have := pw_chg hT.cf i s hs; rwa [pw_len] at this, fun p3 H6 e6 h10 => ?_⟩
      refine ⟨_, rfl, _, rfl, _, _, rfl, q2, b, _, _, rfl, rfl, ex_t e6 h9, ex_t e6 (ex_t e5 hb), by rw [pw_len]; omega, fun s hs => by have := pw_chg hT.cg i s hs; rwa [pw_len] at this, fun p4 H7 e7 h11 => ?_⟩
      refine ⟨_, _, rfl, p3, p4, _, rfl, (e5.trans e6).trans e7, by rw [← hx]; exact e7 _ _ (e6 _ _ h7), ?_, ?_⟩
      · rw [← pw_succ hT.cf]; exact ex_t e7 h10
      · rw [← pw_succ hT.cg]; exact h11
    refine ⟨_, rfl, _, rfl, rdEqT h5 h6 ⟨_, rfl, ?_⟩⟩
    by_cases hag : pw f i = pw g i
    · rw [decide_eq_true hag]
      refine ⟨_, rfl, .inl ⟨rfl, _, SqL.of h4⟩, _, rfl, l, _, _, rfl, rfl, h4, sz_lt ?_, ?_⟩
      · rw [nv_len]
        have := List.length_filter_le (fun c => decide (Ag f g c)) (List.range i)
        rw [List.length_range] at this
        omega
      · refine rest ((List.range i).filter (fun c => decide (Ag f g c)) ++ [i]) _ _ _ _ (ex_mut e4 hl) (by rw [upd_same, nv_snoc]) (tup_upd h4 h5) (tup_upd h4 h6) ?_
        rw [List.range_succ, List.filter_append, List.filter_cons, if_pos (show decide (Ag f g i) = true from decide_eq_true hag)]
        rfl
    · rw [decide_eq_false hag]
      refine rest ((List.range i).filter (fun c => decide (Ag f g c))) H4 _ _ _ e4 h4 h5 h6 ?_
      rw [List.range_succ, List.filter_append, List.filter_cons, if_neg (show ¬ decide (Ag f g i) = true by rw [decide_eq_true_iff]; exact hag), List.filter_nil, List.append_nil]
  · rintro σ H4 ⟨q1, q2, v, rfl, e4, h4, h5, h6⟩
    exact ⟨_, rfl, q t r t' r' l H4 tr tr' e4 h4⟩
end
end Bf
namespace Bf
open PySem PySem.Spec PyProof.Rows L2 RZ PpSet
open C8 (Cal Met Mak Def cal0 met0 mak0 pe_c pe_mk pe_mt pe_mt0 fnScope fnBody InsC call_isC tCut pss_cut)
open Evl (Ex ex_l ex_t ex_rd fresh_back sz_of sz_lt)
section
variable {P : Program} {w : World} {K : PySem.W.Frag} {mg : Str → Option Value} {base : Heap}
/-! ### pairs -/
def rl (rs : List (Nat × Nat)) : List (List Nat) := rs.map fun r => [r.1, r.2]
theorem rl_snoc (rs : List (Nat × Nat)) (s t : Nat) : rl (rs ++ [(s, t)]) = rl rs ++ [[s, t]] := List.map_append
theorem Tups.unsnoc {H : Hp} {vs : List V} {xss : List (List Nat)} {xs : List Nat} (h : Tups K H vs (xss ++ [xs])) : ∃ ws p, vs = ws ++ [.ref p] ∧ ws.length = xss.length ∧ Tups K H ws xss ∧ SqT K H p (nv xs) := by
  obtain ⟨h1, h2⟩ := h
  rw [List.length_append, List.length_singleton] at h1
  rcases List.eq_nil_or_concat vs with rfl | ⟨ws, v, rfl⟩
  · simp at h1
  · rw [List.concat_eq_append] at h1 h2 ⊢
    rw [List.length_append, List.length_singleton] at h1
    have hl : ws.length = xss.length := by omega
    obtain ⟨p, h3, h4⟩ := h2 xss.length xs (by rw [List.getElem?_append_right (Nat.le_refl _), Nat.sub_self]; rfl)
    rw [← hl, List.getElem?_append_right (Nat.le_refl _), Nat.sub_self] at h3
    have h5 : v = .ref p := Option.some.inj h3
    subst h5
    refine ⟨ws, p, rfl, hl, ⟨hl, fun i ys hi => ?_⟩, h4⟩
    have hb := (List.getElem?_eq_some_iff.mp hi).1
    obtain ⟨q, h6, h7⟩ := h2 i ys (by rw [List.getElem?_append_left hb]; exact hi)
    rw [List.getElem?_append_left (by omega)] at h6
    exact ⟨q, h6, h7⟩
theorem ix_last (n : Nat) : ixN (n + 1) (-1) = some n := by
  unfold ixN
  rw [if_neg (by decide), if_pos (by omega)]
  congr 1
  omega
theorem cut_last (ws : List V) (v : V) : cutV (ws ++ [v]) none (some (-1)) = ws := by
  unfold cutV
  have e1 : HT.sIx (ws ++ [v]).length 0 none = 0 := rfl
  have e2 : HT.sIx (ws ++ [v]).length (ws ++ [v]).length (some (-1)) = ws.length := by
    show (if (-1 : Int) < 0 then ((-1 : Int) + ((ws ++ [v]).length : Int)).toNat else min (-1 : Int).toNat (ws ++ [v]).length) = ws.length
    rw [if_pos (by decide), List.length_append, List.length_singleton]
    omega
  rw [e1, e2, List.drop_zero, Nat.sub_zero, List.take_left]
theorem set_last (ws : List V) (v u : V) : (ws ++ [v]).set ws.length u = ws ++ [u] := by
  rw [List.set_append_right _ _ (Nat.le_refl _), Nat.sub_self]
  rfl
abbrev s_runs_of : Stmt := topS 31
abbrev N_runs_of : List Str := ["counts", "end", "found", "at", "step"]
theorem sc_runs_of : FnScope N_runs_of ["counts", "end"] (fnScope s_runs_of) := ⟨rfl, rfl, rfl, by decide +kernel, rfl, by decide +kernel, by decide +kernel⟩
def spRuns (K : PySem.W.Frag) : Sp := sp2 fun x y H Q => ∃ a, ∃ (L : List Nat) (e x0 : Nat) (A : Nat → Prop), x = .ref a ∧ y = .int e ∧ SqL K H a (nv L) ∧ Rise A L ∧ L[L.length - 1]? = some x0 ∧
  ∀ p rs vs H', RunI A rs x0 → Ex H H' → SqT K H' p vs → Tups K H' vs (rl (cutEnd rs e)) → vs.length ≤ L.length → Q (.ref p) H'
theorem c_runs_of (d : DefB K mg "runs_of" s_runs_of ["counts", "end"]) (Z : Zb mg) : Cal P w K mg base 1 "runs_of" (spRuns K) [] := by
  refine cal_of d sc_runs_of len2 fun vs H Q E h f0 cdv A0 outer s E' hr => ?_
  obtain ⟨x, y, rfl, a, L, e, x0, A, rfl, rfl, ha, hL, hx0, q⟩ := h
  have few := hL.few
  have L0 : 0 < L.length := (List.getElem?_eq_some_iff.mp hL.zero).1
  refine ⟨_, (pss_cons (ps_set (i := 2) sc_runs_of.nd rfl (Or.inl rfl) (pe_lst pa_nil))
      (pss_cons (ps_for PassesOwn.never rfl (pi_range2 (by rfl) Z.range (pa_cons pe_int (pa_cons (pe_callB (call_lenK K) (by rfl) Z.len (by decide +kernel) (pa_cons (pv 0) pa_nil)) pa_nil))) (pg_name (i := 3) sc_runs_of.nd rfl (Or.inl rfl))
        (pss_cons (ps_set (i := 4) sc_runs_of.nd rfl (Or.inl rfl) (pe_op on_sub (pe_ix (ix_listK K) (pv 0) (pv 3) (fun _ _ => rfl)) (pe_ix (ix_listK K) (pv 0) (pe_op on_sub (pv 3) pe_int) (fun _ _ => rfl))))
        (pss_one (ps_if (PW.pt (pw_and (pt_cmpR on_gt (pe_callB (call_lenK K) (by rfl) Z.len (by decide +kernel) (pa_cons (pv 2) pa_nil)) pe_int (nomark _)) (pw_and1 (pt_cmpR on_eq (pe_ix (ix_tupK K) (pe_ix (ix_listK K) (pv 2) (pe_un un_neg pe_int) (fun _ _ => rfl)) pe_int (fun _ _ => rfl)) (pv 4) (nomark _)))))
          (pss_one (ps_asg (pe_tup (pa_cons (pv 4) (pa_cons (pe_op on_add (pe_ix (ix_tupK K) (pe_ix (ix_listK K) (pv 2) (pe_un un_neg pe_int) (fun _ _ => rfl)) pe_int (fun _ _ => rfl)) pe_int) pa_nil))) (pg_sub (pv 2) (pe_un un_neg pe_int) set_list)))
          (pss_one (ps_expr (pe_bm PySem.F.plainAttrs_list PySem.F.slot_list_append PySem.F.type_list_append mt_append (pv 2) (pa_cons (pe_tup (pa_cons (pv 4) (pa_cons pe_int pa_nil))) pa_nil))))))))
      (pss_one (ps_ret (pe_callTy (call_tupK K) (by rfl) Z.tuple_ (by decide +kernel) (pa_cons (pe_ifExp (PW.pt (pw_and (pt_cmpR on_gt (pe_callB (call_lenK K) (by rfl) Z.len (by decide +kernel) (pa_cons (pv 2) pa_nil)) pe_int (nomark _)) (pw_and1 (pt_cmpR on_eq (pe_ix (ix_tupK K) (pe_ix (ix_listK K) (pv 2) (pe_un un_neg pe_int) (fun _ _ => rfl)) pe_int (fun _ _ => rfl)) (pv 1) (nomark _))))) (pe_slice (sl_listK K) (pv 2) po_none (po_some (pe_un un_neg pe_int))) (pv 2)) pa_nil)))))), ?_⟩
  refine ⟨Nat.zero_le _, fun l hl => ?_⟩
  have e0 := ex_new (o := .lst []) hl
  have hl0 : (upd H l (.lst [])) l = some (.lst []) := upd_same
  refine ⟨_, rfl, a, _, rfl, .inl (ex_l e0 ha), 1, ((nv L).length : Nat), rfl, ⟨by decide, by decide, by omega, by rw [nv_len]; omega⟩, ?_⟩
  have hn : (((nv L).length : Nat) : Int) - 1 = ((L.length - 1 : Nat) : Int) := by rw [nv_len]; omega
  rw [hn, Int.toNat_natCast]
  refine for_range (lo := 1) (n := L.length - 1) (fun i σ H' => ∃ rs vs x u v, σ = [some (.ref a), some (.int (e : Nat)), some (.ref l), u, v] ∧ Ex H H' ∧ H' l = some (.lst vs) ∧ Tups K H' vs (rl rs) ∧ vs.length ≤ i ∧ L[i]? = some x ∧ RunI A rs x ∧ (rs = [] ↔ i = 0))
    ⟨[], [], 0, none, none, rfl, e0, hl0, Tups.nil, Nat.le_refl _, hL.zero, RunI.zero A, by simp⟩ ?_ ?_
  · rintro i σ H2 hi ⟨rs, vs, x, u, v, rfl, e2, h2, ht, hvl, hx, hR, hz⟩
    have hi1 : i + 1 < L.length := by omega
    have hy : L[i + 1]? = some L[i + 1] := List.getElem?_eq_getElem hi1
    generalize L[i + 1] = y at hy
    obtain ⟨hxy, hnext⟩ := hL.next i x y hx hy
    have ei : (1 : Int) + (i : Int) = ((i + 1 : Nat) : Int) := by omega
    have ha2 := ex_l e2 ha
    rw [ei]
    refine ⟨_, rfl, _, rfl, a, _, _, _, rfl, rfl, ha2, atI_nat (nv_get hy), _, rfl, _, rfl, i + 1, 1, rfl, rfl, by omega, a, _, _, _, rfl, rfl, ha2, atI_nat (j := i + 1 - 1) (nv_get (by rw [Nat.add_sub_cancel]; exact hx)), y, x, rfl, rfl, by omega, ?_⟩
    have fresh : ∀ {H3 : Hp}, Ex H H3 → ∀ p, H3 p = none → H p = none := fun e p hp => fresh_back e hp
    by_cases h0 : i = 0
    · have hrs := hz.mpr h0
      subst hrs
      have hv0 : vs = [] := List.length_eq_zero_iff.mp (ht.1)
      subst hv0
      subst h0
      have hx00 : x = 0 := Option.some.inj (hx.symm.trans hL.zero)
      subst hx00
      refine ⟨_, rfl, l, [], rfl, .inl (SqL.of h2), 0, 0, rfl, rfl, _, rfl, ?_⟩
      refine ⟨_, rfl, .inl ⟨rfl, _, SqL.of h2⟩, _, rfl, by show 2 ≤ sizeLine; decide, fun p hp => ?_⟩
      have npl : l ≠ p := ne_of_none h2 hp
      refine ⟨l, [], .ref p, rfl, rfl, by rw [upd_ne npl]; exact h2, by show 0 < sizeLine; decide, ?_⟩
      refine ⟨[(y - 0, 1)], [.ref p], y, _, _, rfl, ex_mut (e2.trans (ex_new hp)) hl, upd_same, ?_, Nat.le_refl _, hy, ?_, by simp⟩
      · exact (Tups.nil.snoc (SqT.of upd_same)).upd (by rw [upd_ne npl]; exact h2)
      · exact RunI.first hnext
    · have hrs : rs ≠ [] := fun z => h0 (hz.mp z)
      rcases List.eq_nil_or_concat rs with z | ⟨r0, ⟨s0, t0⟩, hc⟩
      · exact absurd z hrs
      · rw [List.concat_eq_append] at hc
        subst hc
        rw [rl_snoc] at ht
        obtain ⟨ws, p0, rfl, hwl, htw, hp0⟩ := ht.unsnoc
        have hvl' : ws.length + 1 ≤ i := by rwa [List.length_append, List.length_singleton] at hvl
        refine ⟨_, rfl, l, _, rfl, .inl (SqL.of h2), (ws ++ [V.ref p0]).length, 0, rfl, rfl, _, rfl, ?_⟩
        rw [decide_eq_true (show 0 < (ws ++ [V.ref p0]).length by rw [List.length_append, List.length_singleton]; omega)]
        refine ⟨_, rfl, 1, rfl, l, _, -1, _, rfl, rfl, SqL.of h2, atI_last _ _, p0, _, 0, _, rfl, rfl, hp0, atI_nat (j := 0) rfl, _, rfl, s0, y - x, rfl, rfl, _, rfl, ?_⟩
        by_cases hs : s0 = y - x
        · rw [decide_eq_true hs]
          refine ⟨_, rfl, _, rfl, 1, rfl, l, _, -1, _, rfl, rfl, SqL.of h2, atI_last _ _, p0, _, 1, _, rfl, rfl, hp0, atI_nat (j := 1) rfl, t0, 1, rfl, rfl, by show 2 ≤ sizeLine; decide, fun p hp => ?_⟩
          have npl : l ≠ p := ne_of_none h2 hp
          have h3 : (upd H2 p (.tup [.int (y - x : Nat), .int (t0 + 1 : Nat)])) l = some (.lst (ws ++ [V.ref p0])) := by rw [upd_ne npl]; exact h2
          refine ⟨_, rfl, 1, rfl, l, _, -1, ws.length, rfl, rfl, h3, by rw [List.length_append, List.length_singleton]; exact ix_last _, ?_⟩
          rw [set_last]
          refine ⟨r0 ++ [(y - x, t0 + 1)], ws ++ [.ref p], y, _, _, rfl, ex_mut (e2.trans (ex_new hp)) hl, upd_same, ?_, by rw [List.length_append, List.length_singleton]; omega, hy, ?_, by simp⟩
          · rw [rl_snoc]
            exact ((htw.ex (ex_new hp)).snoc (SqT.of upd_same)).upd h3
          · rw [hs] at hR
            have := hR.more hnext
            rwa [show x + (y - x) = y by omega] at this
        · rw [decide_eq_false hs]
          refine ⟨_, rfl, .inl ⟨rfl, _, SqL.of h2⟩, _, rfl, by show 2 ≤ sizeLine; decide, fun p hp => ?_⟩
          have npl : l ≠ p := ne_of_none h2 hp
          have h3 : (upd H2 p (.tup [.int (y - x : Nat), .int 1])) l = some (.lst (ws ++ [V.ref p0])) := by rw [upd_ne npl]; exact h2
          refine ⟨l, _, .ref p, rfl, rfl, h3, sz_lt (by rw [List.length_append, List.length_singleton]; omega), ?_⟩
          refine ⟨r0 ++ [(s0, t0)] ++ [(y - x, 1)], ws ++ [.ref p0] ++ [.ref p], y, _, _, rfl, ex_mut (e2.trans (ex_new hp)) hl, upd_same, ?_, by rw [List.length_append, List.length_singleton]; omega, hy, ?_, by simp⟩
          · rw [rl_snoc, rl_snoc]
            exact ((ht.ex (ex_new hp)).snoc (SqT.of upd_same)).upd h3
          · have := hR.other hs hnext
            rwa [show x + (y - x) = y by omega] at this
  · rintro σ H2 ⟨rs, vs, x, u, v, rfl, e2, h2, ht, hvl, hx, hR, hz⟩
    have hxx : x = x0 := Option.some.inj (hx.symm.trans hx0)
    subst hxx
    have whole : ∀ H3, Ex H2 H3 → cutEnd rs e = rs → rTupOf K [.ref l] H3 Q := fun H3 e3 hc =>
      ⟨l, vs, rfl, .inl ⟨SqL.of (e3 _ _ h2), fun p hp => q p rs vs _ hR ((e2.trans e3).trans (ex_new hp)) (SqT.of upd_same) (by rw [hc]; exact ht.ex (e3.trans (ex_new hp))) (by omega)⟩⟩
    refine ⟨_, rfl, l, _, rfl, .inl (SqL.of h2), vs.length, 0, rfl, rfl, _, rfl, ?_⟩
    by_cases h0 : rs = []
    · subst h0
      have hv0 : vs = [] := List.length_eq_zero_iff.mp ht.1
      subst hv0
      exact ⟨_, rfl, whole H2 (Ex.refl _) rfl⟩
    · rcases List.eq_nil_or_concat rs with z | ⟨r0, ⟨s0, t0⟩, hc⟩
      · exact absurd z h0
      · rw [List.concat_eq_append] at hc
        subst hc
        have ht0 := ht
        rw [rl_snoc] at ht0
        obtain ⟨ws, p0, rfl, hwl, htw, hp0⟩ := ht0.unsnoc
        rw [decide_eq_true (show 0 < (ws ++ [V.ref p0]).length by rw [List.length_append, List.length_singleton]; omega)]
        refine ⟨_, rfl, 1, rfl, l, _, -1, _, rfl, rfl, SqL.of h2, atI_last _ _, p0, _, 0, _, rfl, rfl, hp0, atI_nat (j := 0) rfl, _, rfl, s0, e, rfl, rfl, _, rfl, ?_⟩
        by_cases hs : s0 = e
        · rw [decide_eq_true hs]
          refine ⟨_, rfl, 1, rfl, -1, rfl, l, _, rfl, SqL.of h2, fun p hp => ?_⟩
          rw [cut_last]
          refine ⟨p, ws, rfl, .inl ⟨SqL.of upd_same, fun p2 hp2 => q p2 _ ws _ hR ((e2.trans (ex_new hp)).trans (ex_new hp2)) (SqT.of upd_same) ?_ ?_⟩⟩
          · have : cutEnd (r0 ++ [(s0, t0)]) e = r0 := by
              unfold cutEnd
              rw [List.getLast?_concat]
              show (if s0 = e then (r0 ++ [(s0, t0)]).dropLast else _) = r0
              rw [if_pos hs, List.dropLast_concat]
            rw [this]
            exact (htw.ex (ex_new hp)).ex (ex_new hp2)
          · rw [List.length_append, List.length_singleton] at hvl; omega
        · rw [decide_eq_false hs]
          refine ⟨_, rfl, whole H2 (Ex.refl _) ?_⟩
          unfold cutEnd
          rw [List.getLast?_concat]
          show (if s0 = e then _ else r0 ++ [(s0, t0)]) = r0 ++ [(s0, t0)]
          rw [if_neg hs]
end
end Bf
namespace Bf
open PySem PySem.Spec PyProof.Rows L2 RZ PpSet
open C8 (Cal Met Mak Def cal0 met0 mak0 pe_c pe_mk pe_mt pe_mt0 fnScope fnBody InsC call_isC tCut pss_cut)
open Evl (Ex ex_l ex_t ex_rd fresh_back sz_of sz_lt)
section
variable {P : Program} {w : World} {K : PySem.W.Frag} {mg : Str → Option Value} {base : Heap}
/-- at p the pair of a tuple of runs and an end -/
def FallAt (K : PySem.W.Frag) (H : Hp) (p : Addr) (rs : List (Nat × Nat)) (e : Nat) : Prop := ∃ q vs, SqT K H p [.ref q, .int (e : Nat)] ∧ SqT K H q vs ∧ Tups K H vs (rl rs)
theorem FallAt.ex {H H' : Hp} {p : Addr} {rs : List (Nat × Nat)} {e : Nat} (h : FallAt K H p rs e) (x : Ex H H') : FallAt K H' p rs e := let ⟨q, vs, h1, h2, h3⟩ := h; ⟨q, vs, ex_t x h1, ex_t x h2, h3.ex x⟩
theorem rl_at {rs : List (Nat × Nat)} {i s t : Nat} (h : rs[i]? = some (s, t)) : (rl rs)[i]? = some [s, t] := by unfold rl; rw [List.getElem?_map, h]; rfl
theorem within_cons (s t : Nat) (r : List (Nat × Nat)) (e c : Nat) : within ((s, t) :: r) e c = (if c < s * t then decide (c % s = 0) else within r e (c - s * t)) := rfl
theorem within_nil (e c : Nat) : within [] e c = (if e = 0 then decide (c = 0) else decide (c % e = 0)) := rfl
theorem all_rep (n : Nat) : (List.replicate n true).all id = true := by rw [List.all_replicate]; simp
theorem rl_len (rs : List (Nat × Nat)) : (rl rs).length = rs.length := by unfold rl; rw [List.length_map]
theorem Tups.drop {H : Hp} {vs : List V} {xss : List (List Nat)} (h : Tups K H vs xss) (n : Nat) : Tups K H (vs.drop n) (xss.drop n) :=
  ⟨by rw [List.length_drop, List.length_drop, h.1], fun i xs hi => by
    rw [List.getElem?_drop] at hi
    obtain ⟨p, h1, h2⟩ := h.2 _ xs hi
    exact ⟨p, by rw [List.getElem?_drop]; exact h1, h2⟩⟩
theorem allTrue {H : Hp} {D : Addr} {n : Nat} {Q : VK} (h : H D = some (.lst (List.replicate n (V.bl true)))) (q : Q (.bl true) H) : rAll K [.ref D] H Q :=
  ⟨D, List.replicate n true, rfl, SqL.of (by rw [h, List.map_replicate]), by rw [List.all_replicate]; simpa using q⟩
abbrev s_is_run : Stmt := topS 37
abbrev N_is_run : List Str := ["value", "one"]
theorem sc_is_run : FnScope N_is_run ["value"] (fnScope s_is_run) := ⟨rfl, rfl, rfl, by decide +kernel, rfl, by decide +kernel, by decide +kernel⟩
def spIsRun (K : PySem.W.Frag) : Sp := sp1 fun x H Q => ∃ a, ∃ s t : Nat, x = .ref a ∧ SqT K H a (nv [s, t]) ∧ 0 < s ∧ 0 < t ∧ ∀ H', Ex H H' → Q (.bl true) H'
theorem c_is_run (d : DefB K mg "is_run" s_is_run ["value"]) (Z : Zb mg) (c_is_number : Cal P w K mg base 2 "is_number" spNumber []) : Cal P w K mg base 3 "is_run" (spIsRun K) [] := by
  refine cal_of d sc_is_run len1 fun vs H Q E h f0 cdv A outer s0 E' hr => ?_
  obtain ⟨x, rfl, a, s, t, rfl, ha, hs, ht, q⟩ := h
  refine ⟨_, (pss_one (ps_ret (pe_and (pe_callB (call_isiK1 K) (by rfl) Z.isinstance (by decide +kernel) (pa_cons (pv 0) (pa_cons (pe_bltn (v := .ty "tuple") rfl Z.tuple_ (by decide +kernel) rfl) pa_nil))) (pe_and (pe_cmpR on_eq (pe_callB (call_lenK K) (by rfl) Z.len (by decide +kernel) (pa_cons (pv 0) pa_nil)) pe_int (nomark _)) (pe_one (pe_callB (cr_allK K rfl rfl) (by rfl) Z.all (by decide +kernel) (pa_cons (pe_lc (own := [("one", 1)]) rfl sc_is_run.nd (pi_tupK K rfl (pv 0)) (blkOk_by (own := [("one", 1)]) (N := N_is_run) (sc := fnScope s_is_run) (by decide +kernel)) (fun _ _ _ _ _ => (pg_name (i := 1) sc_is_run.nd rfl (Or.inl rfl))) (fun _ _ _ _ _ => pts_nil) (fun _ _ _ _ _ => (pe_and (pe_c c_is_number hr (by decide) (by rfl) (pa_cons (pv 1) pa_nil)) (pe_one (pe_cmpR on_gt (pv 1) pe_int (nomark _)))))) pa_nil))))))), ?_⟩
  refine ⟨_, rfl, _, _, _, _, true, rfl, .ty "tuple", tyT ha, kit_ty (by decide +kernel), true, rfl, _, rfl, a, _, rfl, .inr ha, 2, 2, rfl, rfl, true, rfl, ?_⟩
  refine ⟨_, rfl, a, rfl, ⟨_, ha⟩, fun D hD => cmT (fun i acc _ => acc = List.replicate i (V.bl true)) (steady_val _) hD rfl ha (by show 2 ≤ 50000; decide) ?_ ?_⟩
  · intro i x hi acc H2 QF QT e hd p kF kT
    obtain ⟨n, hn, rfl⟩ := nv_at hi
    have n0 : 0 < n := by
      match i, hn with
      | 0, hn => cases hn; exact hs
      | 1, hn => cases hn; exact ht
      | i + 2, hn => simp at hn
    refine ⟨rfl, _, rfl, _, rfl, n, rfl, true, rfl, _, rfl, n, 0, rfl, rfl, ?_⟩
    refine kT _ _ (Ex.refl _) ?_
    show acc ++ [V.bl (decide (0 < n))] = List.replicate (i + 1) (V.bl true)
    rw [show acc = _ from p, List.replicate_succ', decide_eq_true n0]
  · intro acc H2 e hd p
    have p' : acc = List.replicate 2 (V.bl true) := p
    subst p'
    exact allTrue hd (q _ e)
abbrev s_is_within : Stmt := topS 38
abbrev N_is_within : List Str := ["runs", "end", "count", "left", "step", "times"]
theorem sc_is_within : FnScope N_is_within ["runs", "end", "count"] (fnScope s_is_within) := ⟨rfl, rfl, rfl, by decide +kernel, rfl, by decide +kernel, by decide +kernel⟩
def spWithin (K : PySem.W.Frag) : Sp := sp3 fun x y z H Q => ∃ a, ∃ (vs : List V) (rs : List (Nat × Nat)) (e c : Nat), x = .ref a ∧ y = .int e ∧ z = .int c ∧ SqT K H a vs ∧ Tups K H vs (rl rs) ∧ (∀ r ∈ rs, 0 < r.1 ∧ r.1 ≤ 4294967296) ∧
  Q (.bl (within rs e c)) H
theorem c_is_within (d : DefB K mg "is_within" s_is_within ["runs", "end", "count"]) (Z : Zb mg) : Cal P w K mg base 1 "is_within" (spWithin K) [] := by
  refine cal_of d sc_is_within len3 fun vs0 H Q E h f0 cdv A outer s0 E' hr => ?_
  obtain ⟨x, y, z, rfl, a, vs, rs, e, c, rfl, rfl, rfl, ha, ht, hrs, q⟩ := h
  refine ⟨_, (pss_cons (ps_set (i := 3) sc_is_within.nd rfl (Or.inl rfl) (pv 2))
      (pss_cons (ps_for PassesOwn.never rfl (pi_tupK K rfl (pv 0)) (pg_tupK K rfl 2 rfl (pgs_cons (pg_name (i := 4) sc_is_within.nd rfl (Or.inl rfl)) (pgs_cons (pg_name (i := 5) sc_is_within.nd rfl (Or.inl rfl)) pgs_nil)))
        (pss_cons (ps_if (pt_cmpR on_lt (pv 3) (pe_op on_mul (pv 4) (pv 5)) (nomark _))
          (pss_one (ps_ret (pe_cmpR on_eq (pe_op on_mod (pv 3) (pv 4)) pe_int (nomark _))))
          pss_nil)
        (pss_one (ps_set (i := 3) sc_is_within.nd rfl (Or.inl rfl) (pe_op on_sub (pv 3) (pe_op on_mul (pv 4) (pv 5)))))))
      (pss_one (ps_ret (pe_ifExp (pt_cmpR on_eq (pv 1) pe_int (nomark _)) (pe_cmpR on_eq (pv 3) pe_int (nomark _)) (pe_cmpR on_eq (pe_op on_mod (pv 3) (pv 1)) pe_int (nomark _))))))), ?_⟩
  refine ⟨_, rfl, _, rfl, a, rfl, ⟨_, ha⟩, for_tup (xs := vs) (fun i σ H' => ∃ l u v, σ = [some (.ref a), some (.int (e : Nat)), some (.int (c : Nat)), some (.int (l : Nat)), u, v] ∧ H' = H ∧ within (rs.drop i) e l = within rs e c)
    ⟨c, none, none, rfl, rfl, rfl⟩ (fun i σ H' _ z => by obtain ⟨_, _, _, _, rfl, _⟩ := z; exact ha) ?_ ?_⟩
  · rintro i x σ H2 hi ⟨l, u, v, rfl, rfl, hl⟩
    have hil : i < rs.length := by rw [← rl_len, ← ht.1]; exact (List.getElem?_eq_some_iff.mp hi).1
    obtain ⟨⟨s, t⟩, hst⟩ : ∃ r, rs[i]? = some r := ⟨_, List.getElem?_eq_getElem hil⟩
    obtain ⟨p, h1, h2⟩ := ht.2 i _ (rl_at hst)
    rw [hi] at h1
    cases h1
    obtain ⟨s0, sz⟩ := hrs _ (List.mem_of_getElem? hst)
    have s0 : 0 < s := s0
    have sz : s ≤ 4294967296 := sz
    have hdrop : rs.drop i = (s, t) :: rs.drop (i + 1) := by
      rw [List.drop_eq_getElem_cons hil, (List.getElem?_eq_some_iff.mp hst).2]
    rw [hdrop, within_cons] at hl
    refine ⟨p, _, rfl, h2, rfl, _, _, rfl, _, _, rfl, rfl, _, rfl, _, rfl, _, rfl, s, t, rfl, rfl, .inl sz, l, s * t, rfl, rfl, _, rfl, ?_⟩
    by_cases hc : l < s * t
    · rw [if_pos hc] at hl
      rw [decide_eq_true hc]
      refine ⟨_, rfl, _, rfl, l, s, rfl, rfl, s0, l % s, 0, rfl, rfl, ?_⟩
      show Q (.bl (decide (l % s = 0))) H2
      rw [hl]
      exact q
    · rw [if_neg hc] at hl
      rw [decide_eq_false hc]
      exact ⟨_, rfl, _, rfl, _, rfl, s, t, rfl, rfl, .inl sz, l, s * t, rfl, rfl, by omega, l - s * t, _, _, rfl, rfl, hl⟩
  · rintro σ H2 ⟨l, u, v, rfl, rfl, hl⟩
    rw [ht.1, rl_len, List.drop_length, within_nil] at hl
    refine ⟨_, rfl, e, 0, rfl, rfl, _, rfl, ?_⟩
    by_cases he : e = 0
    · rw [if_pos he] at hl
      rw [decide_eq_true he]
      refine ⟨_, rfl, l, 0, rfl, rfl, ?_⟩
      show Q (.bl (decide (l = 0))) H2
      rw [hl]
      exact q
    · rw [if_neg he] at hl
      rw [decide_eq_false he]
      refine ⟨_, rfl, _, rfl, l, e, rfl, rfl, by omega, l % e, 0, rfl, rfl, ?_⟩
      show Q (.bl (decide (l % e = 0))) H2
      rw [hl]
      exact q
abbrev s_is_falling : Stmt := topS 39
abbrev N_is_falling : List Str := ["value", "runs", "end", "steps", "run", "step", "times", "at"]
theorem sc_is_falling : FnScope N_is_falling ["value"] (fnScope s_is_falling) := ⟨rfl, rfl, rfl, by decide +kernel, rfl, by decide +kernel, by decide +kernel⟩
def spIsFall (K : PySem.W.Frag) : Sp := sp1 fun x H Q => ∃ a, ∃ (rs : List (Nat × Nat)) (e : Nat), x = .ref a ∧ FallAt K H a rs e ∧ FallOk rs e ∧ ∀ H', Ex H H' → Q (.bl true) H'
theorem c_is_falling (d : DefB K mg "is_falling" s_is_falling ["value"]) (Z : Zb mg) (c_is_number : Cal P w K mg base 2 "is_number" spNumber []) (c_is_run : Cal P w K mg base 3 "is_run" (spIsRun K) [])
    (c_is_within : Cal P w K mg base 1 "is_within" (spWithin K) []) : Cal P w K mg base 4 "is_falling" (spIsFall K) [] := by
  refine cal_of d sc_is_falling len1 fun vs0 H Q E h f0 cdv A outer s0 E' hr => ?_
  obtain ⟨x, rfl, a, rs, e, rfl, ⟨b, vs, ha, hb, ht⟩, hF, q⟩ := h
  have vl : vs.length = rs.length := by rw [ht.1, rl_len]
  have few := hF.few
  refine ⟨_, (pss_cons (ps_if (PW.pt (pw_or (pt_not (pt_val (pe_callB (call_isiK1 K) (by rfl) Z.isinstance (by decide +kernel) (pa_cons (pv 0) (pa_cons (pe_bltn (v := .ty "tuple") rfl Z.tuple_ (by decide +kernel) rfl) pa_nil))))) (pw_or (pt_cmpR on_ne (pe_callB (call_lenK K) (by rfl) Z.len (by decide +kernel) (pa_cons (pv 0) pa_nil)) pe_int (nomark _)) (pw_or (pt_not (pt_val (pe_callB (call_isiK1 K) (by rfl) Z.isinstance (by decide +kernel) (pa_cons (pe_ix (ix_tupK K) (pv 0) pe_int (fun _ _ => rfl)) (pa_cons (pe_bltn (v := .ty "tuple") rfl Z.tuple_ (by decide +kernel) rfl) pa_nil))))) (pw_or1 (pt_not (pt_val (pe_c c_is_number hr (by decide) (by rfl) (pa_cons (pe_ix (ix_tupK K) (pv 0) pe_int (fun _ _ => rfl)) pa_nil)))))))))
        (pss_one (ps_ret pe_bl))
        pss_nil)
      (pss_cons (ps_asg (pv 0) (pg_tupK K rfl 2 rfl (pgs_cons (pg_name (i := 1) sc_is_falling.nd rfl (Or.inr rfl)) (pgs_cons (pg_name (i := 2) sc_is_falling.nd rfl (Or.inr rfl)) pgs_nil))))
      (pss_cons (ps_if (PW.pt (pw_or (pt_not (pt_val (pe_callB (cr_allK K rfl rfl) (by rfl) Z.all (by decide +kernel) (pa_cons (pe_lc (own := [("run", 4)]) rfl sc_is_falling.nd (pi_tupK K rfl (pv 1)) (blkOk_by (own := [("run", 4)]) (N := N_is_falling) (sc := fnScope s_is_falling) (by decide +kernel)) (fun _ _ _ _ _ => (pg_name (i := 4) sc_is_falling.nd rfl (Or.inl rfl))) (fun _ _ _ _ _ => pts_nil) (fun _ _ _ _ _ => (pe_c c_is_run hr (by decide) (by rfl) (pa_cons (pv 4) pa_nil)))) pa_nil)))) (pw_or1 (PW.pt (pw_and (pt_cmpR on_eq (pv 2) pe_int (nomark _)) (pw_and1 (pt_cmpR on_gt (pe_callB (call_lenK K) (by rfl) Z.len (by decide +kernel) (pa_cons (pv 1) pa_nil)) pe_int (nomark _))))))))
        (pss_one (ps_ret pe_bl))
        pss_nil)
      (pss_cons (ps_set (i := 3) sc_is_falling.nd rfl (Or.inr rfl) (pe_lst (StX.pa_star (pe_lc (own := [("step", 5), ("times", 6)]) rfl sc_is_falling.nd (pi_tupK K rfl (pv 1)) (blkOk_by (own := [("step", 5), ("times", 6)]) (N := N_is_falling) (sc := fnScope s_is_falling) (by decide +kernel)) (fun _ _ _ _ _ => (pg_tupK K rfl 2 rfl (pgs_cons (pg_name (i := 5) sc_is_falling.nd rfl (Or.inl rfl)) (pgs_cons (pg_name (i := 6) sc_is_falling.nd rfl (Or.inl rfl)) pgs_nil)))) (fun _ _ _ _ _ => pts_nil) (fun _ _ _ _ _ => (pv 5))) (pa_cons (pv 2) pa_nil))))
      (pss_cons (ps_if (pt_not (pt_val (pe_callB (cr_allK K rfl rfl) (by rfl) Z.all (by decide +kernel) (pa_cons (pe_lc (own := [("at", 7)]) rfl sc_is_falling.nd (pi_range1 (by rfl) Z.range (pa_cons (pe_callB (call_lenK K) (by rfl) Z.len (by decide +kernel) (pa_cons (pv 1) pa_nil)) pa_nil)) (blkOk_by (own := [("at", 7)]) (N := N_is_falling) (sc := fnScope s_is_falling) (by decide +kernel)) (fun _ _ _ _ _ => (pg_name (i := 7) sc_is_falling.nd rfl (Or.inl rfl))) (fun _ _ _ _ _ => pts_nil) (fun _ _ _ _ _ => (pe_cmpR on_gt (pe_ix (ix_listK K) (pv 3) (pv 7) (fun _ _ => rfl)) (pe_ix (ix_listK K) (pv 3) (pe_op on_add (pv 7) pe_int) (fun _ _ => rfl)) (nomark _)))) pa_nil))))
        (pss_one (ps_ret pe_bl))
        pss_nil)
      (pss_one (ps_ret (pe_callB (cr_allK K rfl rfl) (by rfl) Z.all (by decide +kernel) (pa_cons (pe_lc (own := [("at", 7)]) rfl sc_is_falling.nd (pi_range1 (by rfl) Z.range (pa_cons (pe_callB (call_lenK K) (by rfl) Z.len (by decide +kernel) (pa_cons (pv 1) pa_nil)) pa_nil)) (blkOk_by (own := [("at", 7)]) (N := N_is_falling) (sc := fnScope s_is_falling) (by decide +kernel)) (fun _ _ _ _ _ => (pg_name (i := 7) sc_is_falling.nd rfl (Or.inl rfl))) (fun _ _ _ _ _ => pts_nil) (fun _ _ _ _ _ => (pe_c c_is_within hr (by decide) (by rfl) (pa_cons (pe_slice (sl_tupK K) (pv 1) (po_some (pe_op on_add (pv 7) pe_int)) po_none) (pa_cons (pv 2) (pa_cons (pe_ix (ix_tupK K) (pe_ix (ix_tupK K) (pv 1) (pv 7) (fun _ _ => rfl)) pe_int (fun _ _ => rfl)) pa_nil)))))) pa_nil))))))))), ?_⟩
  refine ⟨_, rfl, _, _, _, _, true, rfl, .ty "tuple", tyT ha, kit_ty (by decide +kernel), true, rfl, _, rfl, a, _, rfl, .inr ha, 2, 2, rfl, rfl, _, rfl, ?_⟩
  refine ⟨_, rfl, a, _, 0, _, rfl, rfl, ha, atI_nat (j := 0) rfl, _, _, _, _, true, rfl, .ty "tuple", tyT hb, kit_ty (by decide +kernel), true, rfl, _, rfl, a, _, 1, _, rfl, rfl, ha, atI_nat (j := 1) rfl, _, rfl, e, rfl, true, rfl, ?_⟩
  refine ⟨_, rfl, a, _, rfl, ha, rfl, _, _, rfl, _, _, rfl, rfl, ?_⟩
  -- all([is_run(run) for run in runs])
  refine ⟨_, rfl, b, rfl, ⟨_, hb⟩, fun D hD => cmT (fun i acc _ => acc = List.replicate i (V.bl true)) (steady_val _) hD rfl hb (by omega) ?_ ?_⟩
  · intro i x hi acc H2 QF QT e1 hd p kF kT
    have hil : i < rs.length := by rw [← vl]; exact (List.getElem?_eq_some_iff.mp hi).1
    obtain ⟨⟨s, t⟩, hst⟩ : ∃ r, rs[i]? = some r := ⟨_, List.getElem?_eq_getElem hil⟩
    obtain ⟨p1, h1, h2⟩ := ht.2 i _ (rl_at hst)
    rw [hi] at h1
    cases h1
    have hat := hF.fall.at hst
    refine ⟨rfl, _, rfl, _, rfl, p1, s, t, rfl, ex_t e1 h2, hat.1, hat.2.1, fun H3 e2 => kT _ _ e2 ?_⟩
    show acc ++ [V.bl true] = List.replicate (i + 1) (V.bl true)
    rw [show acc = _ from p, List.replicate_succ']
  intro acc H1 e1 hd p
  have p' : acc = List.replicate vs.length (V.bl true) := p
  subst p'
  refine ⟨D, List.replicate vs.length true, rfl, SqL.of (by rw [hd, List.map_replicate]), _, rfl, ?_⟩
  rw [all_rep]
  -- end == 0 and len(runs) > 0
  have cond : ∀ (Q' : Bool → Hp → Prop), Q' false H1 → tAnd (tTest (tOp (rN fun n m => .bl (decide (n = m))) (tVar 2) (tC (.int 0)))) (tTest (tOp (rN fun n m => .bl (decide (m < n))) (tCB (rLen K) (tCons (tVar 1) tNil)) (tC (.int 0))))
      [some (V.ref a), some (V.ref b), some (V.int (e : Nat)), none, none, none, none, none] H1 Q' := by
    intro Q' hq
    refine ⟨_, rfl, e, 0, rfl, rfl, _, rfl, ?_⟩
    by_cases he : e = 0
    · rw [decide_eq_true he]
      refine ⟨_, rfl, b, vs, rfl, .inr (ex_t e1 hb), vs.length, 0, rfl, rfl, _, rfl, ?_⟩
      have : ¬ 0 < vs.length := fun hv => by
        obtain ⟨⟨s, t⟩, hst⟩ : ∃ r, rs[0]? = some r := ⟨_, List.getElem?_eq_getElem (by omega)⟩
        have := (hF.fall.at hst).2.2.1
        omega
      rw [decide_eq_false this]
      exact hq
    · rw [decide_eq_false he]
      exact hq
  refine cond _ ?_
  -- steps = [*[step for step, times in runs], end]
  have hb1 := ex_t e1 hb
  have ht1 := ht.ex e1
  refine ⟨_, rfl, b, rfl, ⟨_, hb1⟩, fun D2 hD2 => cmT (fun i acc _ => acc = nv ((rs.take i).map (·.1))) (steady_val _) hD2 rfl hb1 (by omega) ?_ ?_⟩
  · intro i x hi acc H2 QF QT e2 hd p kF kT
    have hil : i < rs.length := by rw [← vl]; exact (List.getElem?_eq_some_iff.mp hi).1
    obtain ⟨⟨s, t⟩, hst⟩ : ∃ r, rs[i]? = some r := ⟨_, List.getElem?_eq_getElem hil⟩
    obtain ⟨p1, h1, h2⟩ := ht1.2 i _ (rl_at hst)
    rw [hi] at h1
    cases h1
    refine ⟨p1, _, rfl, ex_t e2 h2, rfl, _, _, rfl, _, _, rfl, rfl, rfl, _, rfl, kT _ _ (Ex.refl _) ?_⟩
    show acc ++ [V.int (s : Nat)] = nv ((rs.take (i + 1)).map (·.1))
    rw [show acc = _ from p, List.take_add_one, hst, List.map_append, ← nv_snoc]
    rfl
  intro acc2 H2 e2 hd2 p2
  have p2' : acc2 = nv ((rs.take vs.length).map (·.1)) := p2
  rw [vl, List.take_length] at p2'
  subst p2'
  have hb2 := ex_t e2 hb1
  refine ⟨D2, _, rfl, .inr (SqL.of hd2), _, rfl, ?_, fun l hl => ?_⟩
  · rw [List.length_append, nv_len, List.length_map]
    exact Nat.le_of_lt (sz_lt (by simp; omega))
  have e3 := e2.trans (ex_new (o := .lst (nv (rs.map (·.1)) ++ [.int (e : Nat)])) hl)
  have hl3 : (upd H2 l (.lst (nv (rs.map (·.1)) ++ [.int (e : Nat)]))) l = some (.lst (nv (stp rs e))) := by
    unfold stp
    rw [upd_same, nv_snoc]
  generalize hH3 : upd H2 l (.lst (nv (rs.map (·.1)) ++ [.int (e : Nat)])) = H3 at e3 hl3 ⊢
  have hb3 := ex_t e3 hb1
  have ht3 := ht1.ex e3
  -- all([steps[at] > steps[at + 1] ..])
  refine ⟨_, rfl, b, vs, rfl, .inr hb3, vs.length, rfl, by omega, by omega, fun D3 hD3 => cmR (n := vs.length) (fun i acc _ => acc = List.replicate i (V.bl true)) (steady_val _) hD3 rfl (by omega) ?_ ?_⟩
  · intro i hi acc H4 QF QT e4 hd p kF kT
    obtain ⟨⟨s, t⟩, hst⟩ : ∃ r, rs[i]? = some r := ⟨_, List.getElem?_eq_getElem (by omega)⟩
    have hat := hF.fall.at hst
    have g1 := stp_at (rs := rs) (e := e) (i := i) (by omega)
    have g2 := stp_at (rs := rs) (e := e) (i := i + 1) (by omega)
    rw [nxt_at hst] at g1
    refine ⟨rfl, _, rfl, _, rfl, l, _, i, _, rfl, rfl, SqL.of (e4 _ _ hl3), atI_nat (nv_get g1), _, rfl, _, rfl, i, 1, rfl, rfl, l, _, _, _, rfl, rfl, SqL.of (e4 _ _ hl3), atI_nat (j := i + 1) (nv_get g2), s, nxt (rs.drop (i + 1)) e, rfl, rfl, kT _ _ (Ex.refl _) ?_⟩
    show acc ++ [V.bl (decide (nxt (rs.drop (i + 1)) e < s))] = List.replicate (i + 1) (V.bl true)
    rw [show acc = _ from p, List.replicate_succ', decide_eq_true hat.2.2.2.1]
  intro acc4 H4 e4 hd4 p4
  have p4' : acc4 = List.replicate vs.length (V.bl true) := p4
  subst p4'
  refine ⟨D3, List.replicate vs.length true, rfl, SqL.of (by rw [hd4, List.map_replicate]), _, rfl, ?_⟩
  rw [all_rep]
  have hb4 := ex_t e4 hb3
  have ht4 := ht3.ex e4
  -- all([is_within(..) ..])
  refine ⟨_, rfl, b, vs, rfl, .inr hb4, vs.length, rfl, by omega, by omega, fun D5 hD5 => cmR (n := vs.length) (fun i acc _ => acc = List.replicate i (V.bl true)) (steady_val _) hD5 rfl (by omega) ?_ ?_⟩
  · intro i hi acc H5 QF QT e5 hd p kF kT
    obtain ⟨⟨s, t⟩, hst⟩ : ∃ r, rs[i]? = some r := ⟨_, List.getElem?_eq_getElem (by omega)⟩
    have hat := hF.fall.at hst
    obtain ⟨p1, h1, h2⟩ := ht4.2 i _ (rl_at hst)
    have hlo : HT.sIx vs.length 0 (some ((i + 1 : Nat) : Int)) = i + 1 := by rw [HT.sIx_nat, Nat.min_eq_left (by omega)]
    have hcut : cutV vs (some ((i + 1 : Nat) : Int)) none = vs.drop (i + 1) := by
      unfold cutV
      rw [hlo, HT.sIx_none, List.take_of_length_le (by rw [List.length_drop]; omega)]
    refine ⟨rfl, _, rfl, _, rfl, i, 1, rfl, rfl, _, rfl, b, vs, rfl, ex_t e5 hb4, fun hw => ?_, fun _ p6 hp6 => ?_⟩
    · have := hw.1
      rw [hlo] at this
      omega
    · rw [hcut]
      have e6 := ex_new (o := .tup (vs.drop (i + 1))) hp6
      refine ⟨_, rfl, _, rfl, _, rfl, b, vs, i, _, rfl, rfl, ex_t e6 (ex_t e5 hb4), atI_nat h1, p1, _, 0, _, rfl, rfl, ex_t e6 (ex_t e5 h2), atI_nat (j := 0) rfl, _, _, _, rfl, p6, vs.drop (i + 1), rs.drop (i + 1), e, s, rfl, rfl, rfl, SqT.of upd_same, ?_, fun r hr => ?_, kT _ _ e6 ?_⟩
      · have := ((ht4.ex e5).ex e6).drop (i + 1)
        unfold rl at this ⊢
        rwa [← List.map_drop] at this
      · obtain ⟨j, hj⟩ := List.getElem?_of_mem hr
        obtain ⟨s', t'⟩ := r
        exact ⟨(hat.2.2.2.2.2.at hj).1, hF.small _ (List.mem_of_mem_drop hr)⟩
      · show acc ++ [V.bl (within (rs.drop (i + 1)) e s)] = List.replicate (i + 1) (V.bl true)
        rw [show acc = _ from p, List.replicate_succ', hat.2.2.2.2.1]
  intro acc6 H6 e6 hd6 p6
  have p6' : acc6 = List.replicate vs.length (V.bl true) := p6
  subst p6'
  exact allTrue hd6 (q _ (((e1.trans e3).trans e4).trans e6))
abbrev s_checked_falling : Stmt := topS 40
abbrev N_checked_falling : List Str := ["value"]
theorem sc_checked_falling : FnScope N_checked_falling ["value"] (fnScope s_checked_falling) := ⟨rfl, rfl, rfl, by decide +kernel, rfl, by decide +kernel, by decide +kernel⟩
def spCkFall (K : PySem.W.Frag) : Sp := sp1 fun x H Q => ∃ a, ∃ (rs : List (Nat × Nat)) (e : Nat), x = .ref a ∧ FallAt K H a rs e ∧ FallOk rs e ∧ ∀ H', Ex H H' → Q (.ref a) H'
theorem c_checked_falling (d : DefB K mg "checked_falling" s_checked_falling ["value"]) (Z : Zb mg) (c_is_falling : Cal P w K mg base 4 "is_falling" (spIsFall K) []) : Cal P w K mg base 5 "checked_falling" (spCkFall K) [] := by
  refine cal_of d sc_checked_falling len1 fun vs0 H Q E h f0 cdv A outer s0 E' hr => ?_
  obtain ⟨x, rfl, a, rs, e, rfl, ha, hF, q⟩ := h
  refine ⟨_, (pss_cons (ps_if (pt_not (pt_val (pe_c c_is_falling hr (by decide) (by rfl) (pa_cons (pv 0) pa_nil))))
        (pss_one ps_never)
        pss_nil)
      (pss_one (ps_ret (pv 0)))), ?_⟩
  exact ⟨_, rfl, _, rfl, a, rs, e, rfl, ha, hF, fun H1 e1 => ⟨true, rfl, _, rfl, q _ e1⟩⟩
abbrev s_has : Stmt := topS 41
abbrev N_has : List Str := ["falling", "count", "runs", "end"]
theorem sc_has : FnScope N_has ["falling", "count"] (fnScope s_has) := ⟨rfl, rfl, rfl, by decide +kernel, rfl, by decide +kernel, by decide +kernel⟩
def spHas (K : PySem.W.Frag) : Sp := sp2 fun x y H Q => ∃ a, ∃ (rs : List (Nat × Nat)) (e c : Nat), x = .ref a ∧ y = .int c ∧ FallAt K H a rs e ∧ FallOk rs e ∧ ∀ H', Ex H H' → Q (.bl (within rs e c)) H'
theorem c_has (d : DefB K mg "has" s_has ["falling", "count"]) (Z : Zb mg) (c_checked_falling : Cal P w K mg base 5 "checked_falling" (spCkFall K) []) (c_is_within : Cal P w K mg base 1 "is_within" (spWithin K) []) :
    Cal P w K mg base 6 "has" (spHas K) [] := by
  refine cal_of d sc_has len2 fun vs0 H Q E h f0 cdv A outer s0 E' hr => ?_
  obtain ⟨x, y, rfl, a, rs, e, c, rfl, rfl, hA, hF, q⟩ := h
  obtain ⟨b, vs, ha, hb, ht⟩ := id hA
  refine ⟨_, (pss_cons (ps_asg (pe_c c_checked_falling hr (by decide) (by rfl) (pa_cons (pv 0) pa_nil)) (pg_tupK K rfl 2 rfl (pgs_cons (pg_name (i := 2) sc_has.nd rfl (Or.inl rfl)) (pgs_cons (pg_name (i := 3) sc_has.nd rfl (Or.inl rfl)) pgs_nil))))
      (pss_one (ps_ret (pe_c c_is_within hr (by decide) (by rfl) (pa_cons (pv 2) (pa_cons (pv 3) (pa_cons (pv 1) pa_nil))))))), ?_⟩
  refine ⟨_, rfl, _, rfl, a, rs, e, rfl, hA, hF, fun H1 e1 => ⟨a, _, rfl, ex_t e1 ha, rfl, _, _, rfl, _, _, rfl, rfl, ?_⟩⟩
  refine ⟨_, rfl, _, rfl, _, rfl, _, _, _, rfl, b, vs, rs, e, c, rfl, rfl, rfl, ex_t e1 hb, ht.ex e1, fun r hr2 => ?_, q _ e1⟩
  obtain ⟨j, hj⟩ := List.getElem?_of_mem hr2
  obtain ⟨s', t'⟩ := r
  exact ⟨(hF.fall.at hj).1, hF.small _ hr2⟩
end
end Bf
namespace Bf
open PySem PySem.Spec PyProof.Rows L2 RZ PpSet
open C8 (Cal Met Mak Def cal0 met0 mak0 pe_c pe_mk pe_mt pe_mt0 fnScope fnBody InsC call_isC tCut pss_cut)
open Evl (Ex ex_l ex_t ex_rd fresh_back sz_of sz_lt)
section
variable {P : Program} {w : World} {K : PySem.W.Frag} {mg : Str → Option Value} {base : Heap}
abbrev s_falling_of : Stmt := topS 32
abbrev N_falling_of : List Str := ["first", "second", "end", "counts", "far"]
theorem sc_falling_of : FnScope N_falling_of ["first", "second"] (fnScope s_falling_of) := ⟨rfl, rfl, rfl, by decide +kernel, rfl, by decide +kernel, by decide +kernel⟩
def spFallingOf (K : PySem.W.Frag) : Sp := sp2 fun x y H Q => ∃ a b, ∃ f g : List Nat, x = .ref a ∧ y = .ref b ∧ SqT K H a (nv f) ∧ SqT K H b (nv g) ∧ Two f g ∧ f.length ≤ 16 ∧
  ∀ p rs e H', Ex H H' → FallAt K H' p rs e → FallOk rs e → (∀ c, within rs e c = true ↔ Ag f g c) → Q (.ref p) H'
theorem fallOk_nil (e : Nat) : FallOk [] e := ⟨trivial, fun _ h => absurd h List.not_mem_nil, Nat.zero_le _⟩
theorem c_falling_of (d : DefB K mg "falling_of" s_falling_of ["first", "second"]) (Z : Zb mg) (c_end_of : Cal P w K mg base 5 "end_of" (spEnd K) []) (c_reach_of : Cal P w K mg base 4 "reach_of" (spReach K) [])
    (c_from_on : Cal P w K mg base 1 "from_on" spFromOn []) (c_near_counts : Cal P w K mg base 5 "near_counts" (spNear K) []) (c_runs_of : Cal P w K mg base 1 "runs_of" (spRuns K) []) : Cal P w K mg base 6 "falling_of" (spFallingOf K) [] := by
  refine cal_of d sc_falling_of len2 fun vs0 H Q E h f0 cdv A outer s E' hr => ?_
  obtain ⟨x, y, rfl, a, b, f, g, rfl, rfl, ha, hb, hT, lf, q⟩ := h
  have lg : g.length ≤ 16 := by rw [← hT.len]; exact lf
  have hA := hT.closed
  refine ⟨_, (pss_cons (ps_set (i := 2) sc_falling_of.nd rfl (Or.inl rfl) (pe_c c_end_of hr (by decide) (by rfl) (pa_cons (pv 0) (pa_cons (pv 1) pa_nil))))
      (pss_cons (ps_if (pt_cmpR on_eq (pv 2) pe_int (nomark _))
        (pss_one (ps_ret (pe_tup (pa_cons (pe_tup pa_nil) (pa_cons pe_int pa_nil)))))
        pss_nil)
      (pss_cons (ps_set (i := 3) sc_falling_of.nd rfl (Or.inl rfl) (pe_c c_near_counts hr (by decide) (by rfl) (pa_cons (pv 0) (pa_cons (pv 1) pa_nil))))
      (pss_cons (ps_set (i := 4) sc_falling_of.nd rfl (Or.inl rfl) (pe_c c_from_on hr (by decide) (by rfl) (pa_cons (pv 2) (pa_cons (pe_c c_reach_of hr (by decide) (by rfl) (pa_cons (pv 0) (pa_cons (pv 1) pa_nil))) pa_nil))))
      (pss_one (ps_ret (pe_tup (pa_cons (pe_ifExp (pt_cmpR on_gt (pe_callB (call_lenK K) (by rfl) Z.len (by decide +kernel) (pa_cons (pv 3) pa_nil)) pe_int (nomark _)) (pe_c c_runs_of hr (by decide) (by rfl) (pa_cons (pe_lst (StX.pa_star (pv 3) (pa_cons (pv 4) pa_nil))) (pa_cons (pv 2) pa_nil))) (pe_tup pa_nil)) (pa_cons (pv 2) pa_nil))))))))), ?_⟩
  refine ⟨_, rfl, _, rfl, _, _, rfl, a, b, f, g, rfl, rfl, ha, hb, hT, lf, fun t r t' r' e H1 tr tr' he e1 => ?_⟩
  have TZ : max t t' ≤ 16 := Nat.max_le.mpr ⟨Nat.le_trans tr.t_le lf, Nat.le_trans tr'.t_le lg⟩
  refine ⟨_, rfl, e, 0, rfl, rfl, _, rfl, ?_⟩
  rcases he with ⟨rfl, he⟩ | ⟨e0, ez, he⟩
  · rw [decide_eq_true (rfl : (0 : Nat) = 0)]
    refine ⟨by show 0 ≤ sizeLine; decide, fun p hp => ⟨by show 2 ≤ sizeLine; decide, fun p2 hp2 => ?_⟩⟩
    have e2 := ex_new (o := .tup []) hp
    refine q p2 [] 0 _ ((e1.trans e2).trans (ex_new hp2)) ⟨p, [], SqT.of upd_same, ex_t (ex_new hp2) (SqT.of upd_same), Tups.nil⟩ (fallOk_nil 0) fun c => ?_
    rw [within_nil, if_pos rfl, decide_eq_true_iff]
    exact ⟨fun h => by rw [h]; exact hA.zero, he c⟩
  · rw [decide_eq_false (by omega)]
    refine ⟨_, rfl, _, rfl, _, _, rfl, a, b, f, g, rfl, rfl, ex_t e1 ha, ex_t e1 hb, hT, lf, fun u v u' v' p H2 tu tu' e2 hp => ?_⟩
    obtain rfl := tr.uniq tu
    obtain rfl := tr'.uniq tu'
    have e3 := e1.trans e2
    refine ⟨_, rfl, _, rfl, _, rfl, _, _, rfl, a, b, f, g, rfl, rfl, ex_t e3 ha, ex_t e3 hb, hT.cf, hT.cg, lf, lg, fun u v u' v' H3 tu tu' e4 => ?_⟩
    obtain rfl := tr.uniq tu
    obtain rfl := tr'.uniq tu'
    have e5 := e3.trans e4
    have hp3 : H3 p = some (.lst (nv (below (Ag f g) (max t t')))) := e4 _ _ hp
    refine ⟨_, _, rfl, e, max t t', rfl, rfl, e0, ez, ?_⟩
    have hTf := upTo_ge (l := max t t') e0
    have hlf := upTo_lt (l := max t t') e0
    have hbf := below_far e0 he
    have hbl := below_len (A := Ag f g) (max t t')
    have hdv := upTo_dvd e (max t t')
    generalize hfar : upTo e (max t t') = far at hTf hlf hbf hdv
    refine ⟨_, rfl, p, _, rfl, .inl (SqL.of hp3), _, 0, rfl, rfl, _, rfl, ?_⟩
    by_cases hl : 0 < (nv (below (Ag f g) (max t t'))).length
    · rw [decide_eq_true hl]
      refine ⟨_, rfl, p, _, rfl, .inr (SqL.of hp3), _, rfl, ?_, fun l hl2 => ?_⟩
      · rw [List.length_append, nv_len]
        exact Nat.le_of_lt (sz_lt (by simp; omega))
      have e6 := ex_new (o := .lst (nv (below (Ag f g) (max t t')) ++ [.int (far : Nat)])) hl2
      have hr1 : Rise (Ag f g) (below (Ag f g) (far + 1)) := below_rise (Nat.succ_pos _) hA.zero (by rw [hbf]; simp; omega)
      rw [hbf] at hr1
      refine ⟨_, rfl, _, _, rfl, l, _, e, far, Ag f g, rfl, rfl, SqL.of ?_, hr1, ?_, fun p5 rs vs H5 hR e7 hp5 hv hvl => ?_⟩
      · rw [upd_same, nv_snoc]
      · rw [List.length_append, List.length_singleton, Nat.add_sub_cancel, List.getElem?_append_right (Nat.le_refl _), Nat.sub_self]
        rfl
      · have hx : ∀ c, Ag f g (far + c) ↔ e ∣ c := fun c => (he (far + c) (by omega)).trans ⟨fun h => (Nat.dvd_add_iff_right hdv).mpr h, fun h => (Nat.dvd_add_iff_right hdv).mp h⟩
        obtain ⟨d1, d2⟩ := hR.done hA e0 hx
        refine ⟨_, rfl, by show 2 ≤ sizeLine; decide, fun p6 hp6 => q p6 _ e _ (((e5.trans e6).trans e7).trans (ex_new hp6)) ⟨p5, vs, SqT.of upd_same, ex_t (ex_new hp6) hp5, hv.ex (ex_new hp6)⟩ ⟨d1, fun r hr => ?_, ?_⟩ d2⟩
        · have := hR.to.le.2 r (cutEnd_sub rs e r hr)
          omega
        · have h1 := hv.1
          rw [rl_len] at h1
          rw [List.length_append, List.length_singleton] at hvl
          omega
    · rw [decide_eq_false hl]
      have hT0 : max t t' = 0 := by
        apply Nat.eq_zero_of_not_pos
        intro h
        have hm : 0 ∈ below (Ag f g) (max t t') := below_mem.mpr ⟨h, hA.zero⟩
        have := List.length_pos_of_mem hm
        rw [nv_len] at hl
        exact hl this
      refine ⟨by show 0 ≤ sizeLine; decide, fun p5 hp5 => ?_⟩
      refine ⟨_, rfl, by show 2 ≤ sizeLine; decide, fun p6 hp6 => q p6 [] e _ ((e5.trans (ex_new hp5)).trans (ex_new hp6)) ⟨p5, [], SqT.of upd_same, ex_t (ex_new hp6) (SqT.of upd_same), Tups.nil⟩ (fallOk_nil e) fun c => ?_⟩
      rw [within_nil, if_neg (by omega), decide_eq_true_iff, ← Nat.dvd_iff_mod_eq_zero]
      exact (he c (by omega)).symm
abbrev s_agreeing : Stmt := topS 33
abbrev N_agreeing : List Str := ["machine", "one", "other", "first"]
theorem sc_agreeing : FnScope N_agreeing ["machine", "one", "other"] (fnScope s_agreeing) := ⟨rfl, rfl, rfl, by decide +kernel, rfl, by decide +kernel, by decide +kernel⟩
structure RowAt (K : PySem.W.Frag) (H : Hp) (a : Addr) (c : Nat) (row : List Nat) : Prop where
  at_ : SqL K H a (nv row) ∨ SqT K H a (nv row)
  lt : ∀ k ∈ row, k < c
  few : row.length ≤ 1000
theorem RowAt.ex {H H' : Hp} {a : Addr} {c : Nat} {row : List Nat} (h : RowAt K H a c row) (e : Ex H H') : RowAt K H' a c row := ⟨h.at_.elim (fun z => .inl (ex_l e z)) fun z => .inr (ex_t e z), h.lt, h.few⟩
theorem chOf_two {c : Nat} {rows : List (List Nat)} (hw : MW c rows) {row row' : List Nat} (h : ∀ k ∈ row, k < c) (h' : ∀ k ∈ row', k < c) : Two (chOf rows row) (chOf rows row') :=
  ⟨(chOf_ok hw row h).2, (chOf_ok hw row' h').2, by rw [(chOf_ok hw row h).1, (chOf_ok hw row' h').1]⟩
def spAgreeing (K : PySem.W.Frag) (CM : Addr) : Sp := sp3 fun x y z H Q => ∃ m a b, ∃ (c : Nat) (rows : List (List Nat)) (row row' : List Nat), x = .ref m ∧ y = .ref a ∧ z = .ref b ∧ Mach K CM H m c rows ∧ MW c rows ∧ rows.length ≤ 16 ∧
  RowAt K H a c row ∧ RowAt K H b c row' ∧ ∀ p rs e H', Ex H H' → FallAt K H' p rs e → FallOk rs e → (∀ n, within rs e n = true ↔ Ag (chOf rows row) (chOf rows row') n) → Q (.ref p) H'
theorem c_agreeing {CM : Addr} (d : DefB K mg "agreeing" s_agreeing ["machine", "one", "other"]) (T : Mx K mg CM) (Z : Zb mg) (c_change_of : Cal P w K mg base 5 "change_of" (spChange K CM) []) (c_falling_of : Cal P w K mg base 6 "falling_of" (spFallingOf K) []) :
    CalD P w K mg base 7 "agreeing" s_agreeing ["machine", "one", "other"] (spAgreeing K CM) := by
  refine cald_of d sc_agreeing len3 fun vs0 H Q E h f0 cdv A outer s E' hr => ?_
  obtain ⟨x, y, z, rfl, m, a, b, c, rows, row, row', rfl, rfl, rfl, hM, hw, hz, h1, h2, q⟩ := h
  refine ⟨_, (pss_cons (ps_set (i := 3) sc_agreeing.nd rfl (Or.inl rfl) (pe_c c_change_of hr (by decide) (by rfl) (pa_cons (pv 0) (pa_cons (pv 1) pa_nil))))
      (pss_one (ps_ret (pe_c c_falling_of hr (by decide) (by rfl) (pa_cons (pv 3) (pa_cons (pe_c c_change_of hr (by decide) (by rfl) (pa_cons (pv 0) (pa_cons (pv 2) pa_nil))) pa_nil)))))), ?_⟩
  refine ⟨_, rfl, _, rfl, _, _, rfl, m, a, c, rows, row, rfl, rfl, hM, hw, h1.at_, h1.lt, h1.few, fun p1 H1 e1 hp1 => ?_⟩
  refine ⟨_, rfl, _, rfl, _, rfl, _, _, rfl, m, b, c, rows, row', rfl, rfl, hM.ex e1, hw, (h2.ex e1).at_, h2.lt, h2.few, fun p2 H2 e2 hp2 => ?_⟩
  exact ⟨_, _, rfl, p1, p2, _, _, rfl, rfl, ex_t e2 hp1, hp2, chOf_two hw h1.lt h2.lt, by rw [(chOf_ok hw row h1.lt).1]; exact hz, fun p rs e H3 e3 hf hok hag => q p rs e H3 ((e1.trans e2).trans e3) hf hok hag⟩
end
end Bf
/-! Closings, walks, marks. -/
namespace Bf
/-- the least closed set that has the members of S -/
inductive Cl (S : Nat → Prop) : Nat → Prop
  | zero : Cl S 0
  | mem {n} : S n → Cl S n
  | cl {x y z} : Cl S x → Cl S y → Cl S z → z ≤ x → z ≤ y → Cl S (x + y - z)
theorem Cl.closed (S : Nat → Prop) : Closed (Cl S) := ⟨.zero, fun _ _ _ hx hy hz h1 h2 => .cl hx hy hz h1 h2⟩
theorem Cl.sub {S A : Nat → Prop} (hA : Closed A) (h : ∀ n, S n → A n) {n : Nat} (c : Cl S n) : A n := by
  induction c with
  | zero => exact hA.zero
  | mem hn => exact h _ hn
  | cl _ _ _ h1 h2 ihx ihy ihz => exact hA.cl _ _ _ ihx ihy ihz h1 h2
theorem Cl.congr {S S' : Nat → Prop} (h : ∀ n, S n → n = 0 ∨ S' n) {n : Nat} (c : Cl S n) : Cl S' n :=
  c.sub (Cl.closed S') fun n hn => (h n hn).elim (fun z => by rw [z]; exact .zero) .mem
theorem Cl.none {S : Nat → Prop} (h : ∀ n, ¬ S n) {n : Nat} (c : Cl S n) : n = 0 := by
  induction c with
  | zero => rfl
  | mem hn => exact absurd hn (h _)
  | cl _ _ _ _ _ ihx ihy ihz => omega
/-- all members of a list are multiples of one of them -/
theorem Cl.dvd {S : Nat → Prop} {a : Nat} (ha : S a) (h : ∀ n, S n → a ∣ n) (c : Nat) : Cl S c ↔ a ∣ c := by
  constructor
  · intro k
    induction k with
    | zero => exact Nat.dvd_zero a
    | mem hn => exact h _ hn
    | cl _ _ _ h1 h2 ihx ihy ihz =>
      exact Nat.dvd_sub (Nat.dvd_add ihx ihy) ihz
  · rintro ⟨k, rfl⟩
    exact (Cl.closed S).mul (.mem ha) k
/-- what is left behind t steps of a -/
def Left (S : Nat → Prop) (a t : Nat) (d : Nat) : Prop := d = a ∨ ∃ c, S c ∧ a * t < c ∧ d = c - a * t
theorem Cl.step {S : Nat → Prop} {a t : Nat} (ha : S a) (a0 : 0 < a) (t0 : 0 < t) (h : ∀ c, S c → c < a * t → a ∣ c) (c : Nat) :
    Cl S c ↔ if c < a * t then a ∣ c else Cl (Left S a t) (c - a * t) := by
  have hL : Cl (Left S a t) a := .mem (.inl rfl)
  have hLc := Cl.closed (Left S a t)
  have ht : 0 < a * t := Nat.mul_pos a0 t0
  have base : a ∣ a * t := Nat.dvd_mul_right a t
  constructor
  · intro k
    refine k.sub (A := fun c => if c < a * t then a ∣ c else Cl (Left S a t) (c - a * t)) ⟨?_, ?_⟩ ?_
    · show if 0 < a * t then a ∣ 0 else _
      rw [if_pos ht]
      exact Nat.dvd_zero a
    · have key : ∀ x y z : Nat, x ≤ y → (if x < a * t then a ∣ x else Cl (Left S a t) (x - a * t)) → (if y < a * t then a ∣ y else Cl (Left S a t) (y - a * t)) → (if z < a * t then a ∣ z else Cl (Left S a t) (z - a * t)) → z ≤ x → z ≤ y →
          (if x + y - z < a * t then a ∣ x + y - z else Cl (Left S a t) (x + y - z - a * t)) := by
        intro x y z hxy hx hy hz hzx hzy
        by_cases cy : y < a * t
        · rw [if_pos (by omega)] at hx hy hz
          have hd : a ∣ x + y - z := Nat.dvd_sub (Nat.dvd_add hx hy) hz
          by_cases cm : x + y - z < a * t
          · rw [if_pos cm]
            exact hd
          · rw [if_neg cm]
            obtain ⟨q, hq⟩ := Nat.dvd_sub hd base
            rw [hq]
            exact hLc.mul hL q
        · rw [if_neg cy] at hy
          rw [if_neg (by omega)]
          by_cases cz : z < a * t
          · rw [if_pos cz] at hz
            by_cases cx : x < a * t
            · rw [if_pos cx] at hx
              obtain ⟨q, hq⟩ := Nat.dvd_sub hx hz
              rw [show x + y - z - a * t = (y - a * t) + (x - z) by omega, hq]
              exact hLc.add hy (hLc.mul hL q)
            · rw [if_neg cx] at hx
              obtain ⟨q, hq⟩ := Nat.dvd_sub base hz
              rw [show x + y - z - a * t = (x - a * t) + (y - a * t) + (a * t - z) by omega, hq]
              exact hLc.add (hLc.add hx hy) (hLc.mul hL q)
          · rw [if_neg cz] at hz
            rw [if_neg (by omega)] at hx
            rw [show x + y - z - a * t = (x - a * t) + (y - a * t) - (z - a * t) by omega]
            exact hLc.cl _ _ _ hx hy hz (by omega) (by omega)
      intro x y z hx hy hz hzx hzy
      rcases Nat.le_total x y with hxy | hxy
      · exact key x y z hxy hx hy hz hzx hzy
      · have := key y x z hxy hy hx hz hzy hzx
        rwa [Nat.add_comm y x] at this
    · intro n hn
      show if n < a * t then a ∣ n else _
      by_cases cn : n < a * t
      · rw [if_pos cn]
        exact h n hn cn
      · rw [if_neg cn]
        by_cases ce : n = a * t
        · rw [ce, Nat.sub_self]
          exact .zero
        · exact .mem (.inr ⟨n, hn, by omega, rfl⟩)
  · intro k
    have hS := Cl.closed S
    have hat : Cl S (a * t) := hS.mul (.mem ha) t
    by_cases cc : c < a * t
    · rw [if_pos cc] at k
      obtain ⟨q, rfl⟩ := k
      exact hS.mul (.mem ha) q
    · rw [if_neg cc] at k
      have : ∀ d, Cl (Left S a t) d → Cl S (a * t + d) := fun d hd => hd.sub (A := fun d => Cl S (a * t + d)) ⟨hat, fun x y z hx hy hz h1 h2 => by
        have := hS.cl _ _ _ hx hy hz (by omega) (by omega)
        rwa [show a * t + x + (a * t + y) - (a * t + z) = a * t + (x + y - z) by omega] at this⟩ fun n hn => by
          rcases hn with rfl | ⟨c, hc, hlt, rfl⟩
          · exact hS.add hat (.mem ha)
          · rw [show a * t + (c - a * t) = c by omega]
            exact .mem hc
      have := this _ k
      rwa [show a * t + (c - a * t) = c by omega] at this
/-- the falling row of the closing of S, its first step a -/
structure Good (S : Nat → Prop) (a : Nat) (rs : List (Nat × Nat)) (e : Nat) : Prop where
  e0 : 0 < e
  fall : Fall rs e
  nx : nxt rs e = a
  wi : ∀ c, within rs e c = true ↔ Cl S c
theorem Good.end_ {S : Nat → Prop} {a : Nat} (a0 : 0 < a) (ha : S a) (h : ∀ n, S n → a ∣ n) : Good S a [] a :=
  ⟨a0, trivial, rfl, fun c => by
    unfold within
    rw [if_neg (by omega), decide_eq_true_iff, ← Nat.dvd_iff_mod_eq_zero]
    exact (Cl.dvd ha h c).symm⟩
theorem Good.step {S : Nat → Prop} {a t a' : Nat} {rs : List (Nat × Nat)} {e : Nat} (ha : S a) (t0 : 0 < t) (h : ∀ c, S c → c < a * t → a ∣ c) (hlt : a' < a) (g : Good (Left S a t) a' rs e) : Good S a ((a, t) :: rs) e := by
  have a0 : 0 < a := by omega
  refine ⟨g.e0, ⟨a0, t0, g.e0, by rw [g.nx]; exact hlt, (g.wi a).mpr (.mem (.inl rfl)), g.fall⟩, rfl, fun c => ?_⟩
  rw [Cl.step ha a0 t0 h c]
  show (if c < a * t then decide (c % a = 0) else within rs e (c - a * t)) = true ↔ _
  by_cases hc : c < a * t
  · rw [if_pos hc, if_pos hc, decide_eq_true_iff, ← Nat.dvd_iff_mod_eq_zero]
  · rw [if_neg hc, if_neg hc]
    exact g.wi _
/-- the runs so far, L is left -/
def Way (S0 : Nat → Prop) (rs : List (Nat × Nat)) (S : Nat → Prop) (a : Nat) : Prop := ∀ rs' e, Good S a rs' e → Fall (rs ++ rs') e ∧ ∀ c, within (rs ++ rs') e c = true ↔ Cl S0 c
theorem Way.start {S : Nat → Prop} {a : Nat} : Way S [] S a := fun _ _ g => ⟨g.fall, g.wi⟩
theorem Way.step {S0 S S' : Nat → Prop} {a t a' : Nat} {rs : List (Nat × Nat)} (w : Way S0 rs S a) (ha : S a) (t0 : 0 < t) (h : ∀ c, S c → c < a * t → a ∣ c) (hlt : a' < a) (hS : ∀ d, S' d ↔ Left S a t d) : Way S0 (rs ++ [(a, t)]) S' a' := by
  have e : S' = Left S a t := funext fun d => propext (hS d)
  subst e
  intro rs' e g
  rw [List.append_assoc]
  exact w _ e (g.step ha t0 h hlt)
theorem Way.done {S0 S : Nat → Prop} {a : Nat} {rs : List (Nat × Nat)} (w : Way S0 rs S a) (a0 : 0 < a) (ha : S a) (h : ∀ n, S n → a ∣ n) : Fall rs a ∧ ∀ c, within rs a c = true ↔ Cl S0 c := by
  have := w [] a (.end_ a0 ha h)
  rwa [List.append_nil] at this
end Bf
namespace Bf
open PySem PySem.Spec PyProof.Rows L2 RZ PpSet
open C8 (Cal Met Mak Def cal0 met0 mak0 pe_c pe_mk pe_mt pe_mt0 fnScope fnBody InsC call_isC tCut pss_cut)
open Evl (Ex ex_l ex_t ex_rd fresh_back sz_of sz_lt)
section
variable {P : Program} {w : World} {K : PySem.W.Frag} {mg : Str → Option Value} {base : Heap}
theorem tk {α : Type} {xs : List α} {i : Nat} {x : α} (h : xs[i]? = some x) : xs.take (i + 1) = xs.take i ++ [x] := by rw [List.take_add_one, h]; rfl
theorem tk_yes {α : Type} {xs : List α} {i : Nat} {x : α} {p : α → Bool} (h : xs[i]? = some x) (hp : p x = true) : (xs.take (i + 1)).filter p = (xs.take i).filter p ++ [x] := by
  rw [tk h, List.filter_append, List.filter_cons, if_pos hp]
  rfl
theorem tk_no {α : Type} {xs : List α} {i : Nat} {x : α} {p : α → Bool} (h : xs[i]? = some x) (hp : p x = false) : (xs.take (i + 1)).filter p = (xs.take i).filter p := by
  rw [tk h, List.filter_append, List.filter_cons, if_neg (by rw [hp]; exact Bool.false_ne_true), List.filter_nil, List.append_nil]
def zv (xs : List Nat) : List Int := xs.map fun (n : Nat) => (n : Int)
theorem zv_nv (xs : List Nat) : (zv xs).map V.int = nv xs := by unfold zv; rw [List.map_map]; rfl
theorem zv_mem {xs : List Nat} {k : Int} : k ∈ zv xs ↔ ∃ n ∈ xs, (n : Int) = k := by unfold zv; exact List.mem_map
theorem zv_len (xs : List Nat) : (zv xs).length = xs.length := by unfold zv; rw [List.length_map]
/-- a sorted list of ints, all of them numbers -/
theorem sorted_nat {ns : List Int} {P : Nat → Prop} (hs : ns.Pairwise (· < ·)) (hm : ∀ k : Int, k ∈ ns → ∃ n : Nat, (n : Int) = k ∧ P n) (hb : ∀ n : Nat, P n → (n : Int) ∈ ns) : ∃ ys : List Nat, ns = zv ys ∧ ys.Pairwise (· < ·) ∧ ∀ y, y ∈ ys ↔ P y := by
  have e : ns = zv (ns.map Int.toNat) := by
    unfold zv
    rw [List.map_map]
    refine (List.map_id' ns).symm.trans (List.map_congr_left fun k hk => ?_)
    obtain ⟨n, rfl, _⟩ := hm k hk
    rfl
  refine ⟨ns.map Int.toNat, e, ?_, fun y => ?_⟩
  · refine List.pairwise_map.mpr (hs.imp_of_mem fun {a b} ha hb hab => ?_)
    obtain ⟨n, rfl, _⟩ := hm a ha
    obtain ⟨m, rfl, _⟩ := hm b hb
    show n < m
    omega
  · constructor
    · intro h
      obtain ⟨k, hk, rfl⟩ := List.mem_map.mp h
      obtain ⟨n, rfl, hP⟩ := hm k hk
      exact hP
    · intro h
      exact List.mem_map.mpr ⟨_, hb y h, rfl⟩
theorem sorted_zv {ns : List Int} {xs : List Nat} (hs : ns.Pairwise (· < ·)) (hm : ∀ k : Int, k ∈ ns ↔ decide (k ∈ zv xs) = true) : ∃ ys : List Nat, ns = zv ys ∧ ys.Pairwise (· < ·) ∧ ∀ y, y ∈ ys ↔ y ∈ xs := by
  refine sorted_nat hs (fun k hk => ?_) fun n hn => ?_
  · obtain ⟨n, h1, h2⟩ := zv_mem.mp (of_decide_eq_true ((hm k).mp hk))
    exact ⟨n, h2, h1⟩
  · exact (hm n).mpr (decide_eq_true (zv_mem.mpr ⟨n, hn, rfl⟩))
theorem sorted_first {ys : List Nat} {a : Nat} (hs : ys.Pairwise (· < ·)) (h : ys[0]? = some a) : a ∈ ys ∧ ∀ y ∈ ys, a ≤ y := by
  refine ⟨List.mem_of_getElem? h, fun y hy => ?_⟩
  obtain ⟨j, hj⟩ := List.getElem?_of_mem hy
  cases j with
  | zero => rw [h] at hj; cases hj; exact Nat.le_refl _
  | succ j => exact Nat.le_of_lt (sorted_lt hs h hj (Nat.succ_pos j))
abbrev s_checked_counts : Stmt := topS 43
abbrev N_checked_counts : List Str := ["value", "count"]
theorem sc_checked_counts : FnScope N_checked_counts ["value"] (fnScope s_checked_counts) := ⟨rfl, rfl, rfl, by decide +kernel, rfl, by decide +kernel, by decide +kernel⟩
def spCounts (K : PySem.W.Frag) : Sp := sp1 fun x H Q => ∃ a, ∃ ns : List Nat, x = .ref a ∧ SqL K H a (nv ns) ∧ ns.length ≤ 1000 ∧ RetT K (nv ns) H Q
theorem c_checked_counts (d : DefB K mg "checked_counts" s_checked_counts ["value"]) (Z : Zb mg) (c_is_number : Cal P w K mg base 2 "is_number" spNumber []) (c_is_sequence : Cal P w K mg base 1 "is_sequence" (spSequence K) []) :
    Cal P w K mg base 3 "checked_counts" (spCounts K) [] := by
  refine cal_of d sc_checked_counts len1 fun vs0 H Q E h f0 cdv A outer s E' hr => ?_
  obtain ⟨x, rfl, a, ns, rfl, ha, hz, q⟩ := h
  refine ⟨_, (pss_cons (ps_if (PW.pt (pw_or (pt_not (pt_val (pe_c c_is_sequence hr (by decide) (by rfl) (pa_cons (pv 0) pa_nil)))) (pw_or1 (pt_not (pt_val (pe_callB (cr_allK K rfl rfl) (by rfl) Z.all (by decide +kernel) (pa_cons (pe_lc (own := [("count", 1)]) rfl sc_checked_counts.nd (pi_listK K rfl (pv 0)) (blkOk_by (own := [("count", 1)]) (N := N_checked_counts) (sc := fnScope s_checked_counts) (by decide +kernel)) (fun _ _ _ _ _ => (pg_name (i := 1) sc_checked_counts.nd rfl (Or.inl rfl))) (fun _ _ _ _ _ => pts_nil) (fun _ _ _ _ _ => (pe_c c_is_number hr (by decide) (by rfl) (pa_cons (pv 1) pa_nil)))) pa_nil)))))))
        (pss_one ps_never)
        pss_nil)
      (pss_one (ps_ret (pe_callTy (call_tupK K) (by rfl) Z.tuple_ (by decide +kernel) (pa_cons (pv 0) pa_nil))))), ?_⟩
  refine ⟨_, rfl, _, rfl, a, _, rfl, .inl ha, fun H1 e1 => ⟨true, rfl, ?_⟩⟩
  have ha1 := ex_l e1 ha
  refine ⟨_, rfl, a, rfl, ⟨_, ha1⟩, fun D hD => cmL (fun i acc _ => acc = List.replicate i (V.bl true)) (steady_val _) hD rfl ha1 (by rw [nv_len]; omega) ?_ ?_⟩
  · intro i x hi acc H2 QF QT e hd p kF kT
    obtain ⟨n, hn, rfl⟩ := nv_at hi
    refine ⟨rfl, _, rfl, _, rfl, n, rfl, kT _ _ (Ex.refl _) ?_⟩
    show acc ++ [V.bl true] = List.replicate (i + 1) (V.bl true)
    rw [show acc = _ from p, List.replicate_succ']
  · intro acc H2 e hd p
    have p' : acc = List.replicate (nv ns).length (V.bl true) := p
    subst p'
    refine ⟨D, List.replicate (nv ns).length true, rfl, SqL.of (by rw [hd, List.map_replicate]), _, rfl, ?_⟩
    rw [all_rep]
    exact ⟨_, rfl, a, _, rfl, .inl ⟨ex_l e ha1, fun l hl => q l _ ((e1.trans e).trans (ex_new hl)) (SqT.of upd_same)⟩⟩
abbrev s_closing : Stmt := topS 44
abbrev N_closing : List Str := ["counts", "left", "runs", "step", "turns", "times", "behind", "count"]
theorem sc_closing : FnScope N_closing ["counts"] (fnScope s_closing) := ⟨rfl, rfl, rfl, by decide +kernel, rfl, by decide +kernel, by decide +kernel⟩
def spClosing (K : PySem.W.Frag) : Sp := sp1 fun x H Q => ∃ a, ∃ ns : List Nat, x = .ref a ∧ SqL K H a (nv ns) ∧ ns.length ≤ 60 ∧ (∀ n ∈ ns, n ≤ 900) ∧
  ∀ p rs e H', Ex H H' → FallAt K H' p rs e → FallOk rs e → (∀ c, within rs e c = true ↔ Cl (fun n => n ∈ ns) c) → Q (.ref p) H'
theorem c_closing (d : DefB K mg "closing" s_closing ["counts"]) (Z : Zb mg) (c_checked_counts : Cal P w K mg base 3 "checked_counts" (spCounts K) []) : Cal P w K mg base 4 "closing" (spClosing K) [] := by
  refine cal_of d sc_closing len1 fun vs0 H Q E h f0 cdv A outer s E' hr => ?_
  obtain ⟨x, rfl, a, ns, rfl, ha, hz, hb, q⟩ := h
  refine ⟨_, (pss_cons (ps_par (i := 1) (j := 2) (by rfl) sc_closing.nd rfl rfl (by decide) rfl rfl (pa_cons (pe_callB (cr_sortedSet rfl) (by rfl) Z.sorted (by decide +kernel) (pa_cons (pe_callTy (cr_setL rfl) (by rfl) Z.set (by decide +kernel) (pa_cons (pe_lc (own := [("count", 7)]) rfl sc_closing.nd (pi_tupK K rfl (pe_c c_checked_counts hr (by decide) (by rfl) (pa_cons (pv 0) pa_nil))) (blkOk_by (own := [("count", 7)]) (N := N_closing) (sc := fnScope s_closing) (by decide +kernel)) (fun _ _ _ _ _ => (pg_name (i := 7) sc_closing.nd rfl (Or.inl rfl))) (fun _ _ _ _ _ => (pts_one (pt_cmpR on_gt (pv 7) pe_int (nomark _)))) (fun _ _ _ _ _ => (pv 7))) pa_nil)) pa_nil)) (pa_cons (pe_lst pa_nil) pa_nil)) (by rfl))
      (pss_cons (ps_while PassesOwn.never (pt_cmpR on_gt (pe_callB (call_lenK K) (by rfl) Z.len (by decide +kernel) (pa_cons (pv 1) pa_nil)) pe_int (nomark _))
        (pss_cons (ps_set (i := 3) sc_closing.nd rfl (Or.inr rfl) (pe_ix (ix_listK K) (pv 1) pe_int (fun _ _ => rfl)))
        (pss_cons (ps_setLc (i := 4) (own := [("count", 7)]) rfl sc_closing.nd rfl rfl (sw_true rfl rfl rfl (by decide +kernel)) (pi_listK K rfl (pv 1)) (blkOk_by (own := [("count", 7)]) (N := N_closing) (sc := fnScope s_closing) (by decide +kernel)) (fun _ _ _ _ _ => (pg_name (i := 7) sc_closing.nd rfl (Or.inl rfl))) (fun _ _ _ _ _ => (pts_one (pt_cmpR on_gt (pe_op on_mod (pv 7) (pv 3)) pe_int (nomark _)))) (fun _ _ _ _ _ => (pe_op on_fdiv (pv 7) (pv 3))))
        (pss_cons (ps_if (pt_cmpR on_eq (pe_callB (call_lenK K) (by rfl) Z.len (by decide +kernel) (pa_cons (pv 4) pa_nil)) pe_int (nomark _))
          (pss_one (ps_ret (pe_tup (pa_cons (pe_callTy (call_tupK K) (by rfl) Z.tuple_ (by decide +kernel) (pa_cons (pv 2) pa_nil)) (pa_cons (pv 3) pa_nil)))))
          pss_nil)
        (pss_cons (ps_set (i := 5) sc_closing.nd rfl (Or.inr rfl) (pe_callB (cr_minK K rfl rfl) (by rfl) Z.min_ (by decide +kernel) (pa_cons (pv 4) pa_nil)))
        (pss_cons (ps_expr (pe_bm PySem.F.plainAttrs_list PySem.F.slot_list_append PySem.F.type_list_append mt_append (pv 2) (pa_cons (pe_tup (pa_cons (pv 3) (pa_cons (pv 5) pa_nil))) pa_nil)))
        (pss_cons (ps_setLc (i := 6) (own := [("count", 7)]) rfl sc_closing.nd rfl rfl (sw_true rfl rfl rfl (by decide +kernel)) (pi_listK K rfl (pv 1)) (blkOk_by (own := [("count", 7)]) (N := N_closing) (sc := fnScope s_closing) (by decide +kernel)) (fun _ _ _ _ _ => (pg_name (i := 7) sc_closing.nd rfl (Or.inl rfl))) (fun _ _ _ _ _ => (pts_one (pt_cmpR on_gt (pv 7) (pe_op on_mul (pv 3) (pv 5)) (nomark _)))) (fun _ _ _ _ _ => (pe_op on_sub (pv 7) (pe_op on_mul (pv 3) (pv 5)))))
        (pss_one (ps_set (i := 1) sc_closing.nd rfl (Or.inl rfl) (pe_callB (cr_sortedSet rfl) (by rfl) Z.sorted (by decide +kernel) (pa_cons (pe_callTy (cr_setL rfl) (by rfl) Z.set (by decide +kernel) (pa_cons (pe_lst (pa_cons (pv 3) (StX.pa_star (pv 6) pa_nil))) pa_nil)) pa_nil)))))))))))
      (pss_one (ps_ret (pe_tup (pa_cons (pe_tup pa_nil) (pa_cons pe_int pa_nil))))))), ?_⟩
  refine ⟨_, rfl, _, rfl, a, ns, rfl, ha, by omega, fun p0 H0 e0 hp0 => ⟨p0, rfl, ⟨_, hp0⟩, fun D hD => cmT (fun i acc _ => acc = nv ((ns.take i).filter fun c => decide (0 < c))) (steady_val _) hD rfl hp0 (by rw [nv_len]; omega) ?_ ?_⟩⟩
  · intro i x hi acc H2 QF QT e hd p kF kT
    obtain ⟨n, hn, rfl⟩ := nv_at hi
    refine ⟨rfl, _, rfl, n, 0, rfl, rfl, _, rfl, ?_⟩
    by_cases h0 : 0 < n
    · rw [decide_eq_true h0]
      refine ⟨_, rfl, kT _ _ (Ex.refl _) ?_⟩
      show acc ++ [V.int (n : Nat)] = nv ((ns.take (i + 1)).filter fun c => decide (0 < c))
      rw [show acc = _ from p, tk_yes hn (decide_eq_true h0), ← nv_snoc]
    · rw [decide_eq_false h0]
      refine kF _ (Ex.refl _) ?_
      show acc = nv ((ns.take (i + 1)).filter fun c => decide (0 < c))
      rw [show acc = _ from p, tk_no hn (decide_eq_false h0)]
  · intro acc H2 e2 hd p
    have p' : acc = nv ((ns.take (nv ns).length).filter fun c => decide (0 < c)) := p
    rw [nv_len, List.take_length] at p'
    subst p'
    have hfl : (ns.filter fun c => decide (0 < c)).length ≤ 60 := Nat.le_trans (List.length_filter_le _ _) hz
    refine ⟨D, zv (ns.filter fun c => decide (0 < c)), rfl, by rw [zv_nv]; exact SqL.of hd, by rw [zv_len]; omega, fun ps n hps hn => ⟨ps, _, n, rfl, upd_same, by rw [zv_len] at hn; omega, fun ks pl hs hm hl hpl => ?_⟩⟩
    rw [zv_len] at hn
    obtain ⟨L, rfl, hLs, hLm⟩ := sorted_zv hs hm
    rw [zv_len] at hl
    have e3 := ((e0.trans e2).trans (ex_new hps)).trans (ex_new (o := .lst ((zv L).map V.int)) hpl)
    refine ⟨Nat.zero_le _, fun r hrn => ⟨_, _, rfl, ?_⟩⟩
    have fin4 : ∀ (H3 : Hp) (r : Addr), Ex H H3 → H3 pl = some (.lst (nv L)) → H3 r = none → (Ex H (upd H3 r (.lst [])) ∧ (upd H3 r (.lst [])) r = some (.lst []) ∧ (upd H3 r (.lst [])) pl = some (.lst (nv L)) ∧ pl ≠ r ∧ H r = none) :=
      fun H3 r h1 h2 h3 => ⟨h1.trans (ex_new h3), upd_same, by rw [upd_ne (ne_of_none h2 h3)]; exact h2, ne_of_none h2 h3, fresh_back h1 h3⟩
    obtain ⟨e4, hr4, hpl4, nlr, hrH⟩ := fin4 _ r e3 (by rw [upd_same, zv_nv]) hrn
    have hL0 : ∀ y ∈ L, 0 < y ∧ y ≤ 900 ∧ y ∈ ns := fun y hy => by
      have := (hLm y).mp hy
      obtain ⟨h1, h2⟩ := List.mem_filter.mp this
      exact ⟨of_decide_eq_true h2, hb y h1, h1⟩
    have hns : ∀ c, Cl (fun n => n ∈ L) c ↔ Cl (fun n => n ∈ ns) c := fun c => ⟨Cl.congr fun n hn => .inr (hL0 n hn).2.2, Cl.congr fun n hn => by
      by_cases h0 : n = 0
      · exact .inl h0
      · exact .inr ((hLm n).mpr (List.mem_filter.mpr ⟨hn, decide_eq_true (by omega)⟩))⟩
    have hLl : L.length ≤ 60 := by omega
    -- the loop
    refine ⟨fun μ σ H' => ∃ l u3 u4 u5 u6 rs vs M b, σ = [some (.ref a), some (.ref l), some (.ref r), u3, u4, u5, u6, none] ∧ Ex H H' ∧ H' r = some (.lst vs) ∧ H' l = some (.lst (nv M)) ∧ l ≠ r ∧ Tups K H' vs (rl rs) ∧ M.Pairwise (· < ·) ∧ M.length ≤ 60 ∧ (∀ y ∈ M, 0 < y) ∧
      ((M = [] ∧ rs = [] ∧ L = []) ∨ (M[0]? = some b ∧ μ = b ∧ b ≤ 900 ∧ rs.length + b ≤ 901 ∧ (∀ t ∈ rs, t.1 ≤ 900) ∧ Way (fun n => n ∈ ns) rs (fun n => n ∈ M) b)),
      ⟨L.getD 0 0, pl, none, none, none, none, [], [], L, L.getD 0 0, rfl, e4, hr4, hpl4, nlr, Tups.nil, hLs, hLl, fun y hy => (hL0 y hy).1, ?_⟩, ?_⟩
    · cases L with
      | nil => exact .inl ⟨rfl, rfl, rfl⟩
      | cons y L' =>
        have := (hL0 y (List.mem_cons_self)).2.1
        refine .inr ⟨rfl, rfl, this, by show 0 + y ≤ 901; omega, fun t ht => absurd ht List.not_mem_nil, fun rs' e' g => ?_⟩
        have g2 := Way.start rs' e' g
        exact ⟨g2.1, fun c => (g2.2 c).trans (hns c)⟩
    · rintro μ σ H5 ⟨l, u3, u4, u5, u6, rs, vs, M, b, rfl, e5, hr5, hl5, nl, ht, hMs, hMl, hMp, hW⟩
      have few : vs.length = rs.length := by rw [ht.1, rl_len]
      refine ⟨_, rfl, l, _, rfl, .inl (SqL.of hl5), _, 0, rfl, rfl, _, rfl, ?_⟩
      rcases hW with ⟨rfl, rfl, hLe⟩ | ⟨hM0, rfl, hb9, hrb, hrs, hW⟩
      · -- nothing told
        refine ⟨by show 0 ≤ sizeLine; decide, fun p1 hp1 => ⟨by show 2 ≤ sizeLine; decide, fun p2 hp2 => ?_⟩⟩
        refine q p2 [] 0 _ ((e5.trans (ex_new hp1)).trans (ex_new hp2)) ⟨p1, [], SqT.of upd_same, ex_t (ex_new hp2) (SqT.of upd_same), Tups.nil⟩ (fallOk_nil 0) fun c => ?_
        rw [within_nil, if_pos rfl, decide_eq_true_iff, ← hns c, hLe]
        exact ⟨fun h => by rw [h]; exact .zero, fun h => Cl.none (fun n hn => absurd hn List.not_mem_nil) h⟩
      · have hMlen : 0 < (nv M).length := by rw [nv_len]; exact (List.getElem?_eq_some_iff.mp hM0).1
        rw [decide_eq_true hMlen]
        obtain ⟨hbM, hbmin⟩ := sorted_first hMs hM0
        have b0 := hMp μ hbM
        refine ⟨_, fun σ' H' h => h, ?_⟩
        refine ⟨_, rfl, l, _, 0, _, rfl, rfl, SqL.of hl5, atI_nat (j := 0) (nv_get hM0), ?_⟩
        refine ⟨_, rfl, l, rfl, ⟨_, SqL.of hl5⟩, fun D2 hD2 => cmL (fun i acc _ => acc = nv (((M.take i).filter fun c => decide (0 < c % μ)).map (· / μ))) (steady_val _) hD2 rfl (SqL.of hl5) (by rw [nv_len]; omega) ?_ ?_⟩
        · intro i x hi acc H6 QF QT e hd p kF kT
          obtain ⟨n, hn, rfl⟩ := nv_at hi
          refine ⟨rfl, _, rfl, _, rfl, n, μ, rfl, rfl, b0, n % μ, 0, rfl, rfl, _, rfl, ?_⟩
          by_cases h0 : 0 < n % μ
          · rw [decide_eq_true h0]
            refine ⟨_, rfl, _, rfl, n, μ, rfl, rfl, ⟨b0, by omega⟩, kT _ _ (Ex.refl _) ?_⟩
            show acc ++ [V.int (n / μ : Nat)] = nv (((M.take (i + 1)).filter fun c => decide (0 < c % μ)).map (· / μ))
            rw [show acc = _ from p, tk_yes hn (decide_eq_true h0), List.map_append, ← nv_snoc]
            rfl
          · rw [decide_eq_false h0]
            refine kF _ (Ex.refl _) ?_
            show acc = nv (((M.take (i + 1)).filter fun c => decide (0 < c % μ)).map (· / μ))
            rw [show acc = _ from p, tk_no hn (decide_eq_false h0)]
        · intro acc H6 e6 hd6 p
          have p' : acc = nv (((M.take (nv M).length).filter fun c => decide (0 < c % μ)).map (· / μ)) := p
          rw [nv_len, List.take_length] at p'
          subst p'
          have hr6 := e6 _ _ hr5
          have hl6 := e6 _ _ hl5
          refine ⟨_, rfl, D2, _, rfl, .inl (SqL.of hd6), _, 0, rfl, rfl, _, rfl, ?_⟩
          generalize hF : M.filter (fun c => decide (0 < c % μ)) = F at hd6
          have hFm : ∀ c, c ∈ F ↔ c ∈ M ∧ 0 < c % μ := fun c => by rw [← hF, List.mem_filter, decide_eq_true_iff]
          by_cases hF0 : F = []
          · -- all are multiples
            subst hF0
            have hdv : ∀ n, n ∈ M → μ ∣ n := fun n hn => by
              apply Nat.dvd_of_mod_eq_zero
              apply Nat.eq_zero_of_not_pos
              intro h
              exact absurd ((hFm n).mpr ⟨hn, h⟩) List.not_mem_nil
            obtain ⟨g1, g2⟩ := hW.done b0 hbM hdv
            refine ⟨_, rfl, r, vs, rfl, .inl ⟨SqL.of hr6, fun p1 hp1 => ⟨_, rfl, by show 2 ≤ sizeLine; decide, fun p2 hp2 => ?_⟩⟩⟩
            exact q p2 rs μ _ (((e5.trans e6).trans (ex_new hp1)).trans (ex_new hp2)) ⟨p1, vs, SqT.of upd_same, ex_t (ex_new hp2) (SqT.of upd_same), ((ht.ex e6).ex (ex_new hp1)).ex (ex_new hp2)⟩ ⟨g1, fun t h => by have := hrs t h; omega, by omega⟩ g2
          · have hFl : 0 < F.length := List.length_pos_iff.mpr hF0
            rw [decide_eq_false (show ¬ (nv (F.map (· / μ))).length = 0 by rw [nv_len, List.length_map]; omega)]
            refine ⟨_, rfl, D2, zv (F.map (· / μ)), rfl, by rw [zv_nv]; exact SqL.of hd6, by rw [zv_len, List.length_map]; exact hFl, fun m hm hmin => ?_⟩
            obtain ⟨t, htm, rfl⟩ := zv_mem.mp hm
            obtain ⟨c0, hc0, hct⟩ := List.mem_map.mp htm
            have hct : c0 / μ = t := hct
            obtain ⟨hc0M, hc0r⟩ := (hFm c0).mp hc0
            have htmin : ∀ c, c ∈ M → 0 < c % μ → t ≤ c / μ := fun c hc hcr => by
              have := hmin (c / μ : Nat) (zv_mem.mpr ⟨c / μ, List.mem_map.mpr ⟨c, (hFm c).mpr ⟨hc, hcr⟩, rfl⟩, rfl⟩)
              omega
            have hc0b := hbmin c0 hc0M
            have t0 : 0 < t := by rw [← hct]; exact Nat.div_pos hc0b b0
            have hc0d := Nat.div_add_mod c0 μ
            have hc0l := Nat.mod_lt c0 b0
            rw [hct] at hc0d
            -- runs.append((step, times))
            refine ⟨_, rfl, .inl ⟨rfl, _, SqL.of hr6⟩, _, rfl, _, rfl, by show 2 ≤ sizeLine; decide, fun p1 hp1 => ?_⟩
            have e7 := e6.trans (ex_new (o := .tup [.int (μ : Nat), .int (t : Nat)]) hp1)
            refine ⟨r, vs, .ref p1, rfl, rfl, e7 _ _ hr5, sz_lt (by omega), ?_⟩
            have nr1 : r ≠ p1 := ne_of_none hr6 hp1
            have e8 := ex_mut (o := .lst (vs ++ [.ref p1])) (e5.trans e7) hrH
            have hr8 : (upd (upd H6 p1 (.tup [.int (μ : Nat), .int (t : Nat)])) r (.lst (vs ++ [.ref p1]))) r = some (.lst (vs ++ [.ref p1])) := upd_same
            have hl8 : (upd (upd H6 p1 (.tup [.int (μ : Nat), .int (t : Nat)])) r (.lst (vs ++ [.ref p1]))) l = some (.lst (nv M)) := by rw [upd_ne nl]; exact e7 _ _ hl5
            have ht8 : Tups K (upd (upd H6 p1 (.tup [.int (μ : Nat), .int (t : Nat)])) r (.lst (vs ++ [.ref p1]))) (vs ++ [.ref p1]) (rl (rs ++ [(μ, t)])) := by
              rw [rl_snoc]
              exact ((ht.ex e7).snoc (SqT.of upd_same)).upd (e7 _ _ hr5)
            generalize (upd (upd H6 p1 (.tup [.int (μ : Nat), .int (t : Nat)])) r (.lst (vs ++ [.ref p1]))) = H8 at e8 hr8 hl8 ht8
            -- behind
            refine ⟨_, rfl, l, rfl, ⟨_, SqL.of hl8⟩, fun D3 hD3 => cmL (fun i acc _ => acc = nv (((M.take i).filter fun c => decide (μ * t < c)).map (· - μ * t))) (steady_val _) hD3 rfl (SqL.of hl8) (by rw [nv_len]; omega) ?_ ?_⟩
            · intro i x hi acc H9 QF QT e hd p kF kT
              obtain ⟨n, hn, rfl⟩ := nv_at hi
              refine ⟨rfl, _, rfl, _, rfl, _, rfl, μ, t, rfl, rfl, .inl (by omega), n, μ * t, rfl, rfl, _, rfl, ?_⟩
              by_cases h0 : μ * t < n
              · rw [decide_eq_true h0]
                refine ⟨_, rfl, _, rfl, _, rfl, μ, t, rfl, rfl, .inl (by omega), n, μ * t, rfl, rfl, by omega, kT _ _ (Ex.refl _) ?_⟩
                show acc ++ [V.int (n - μ * t : Nat)] = nv (((M.take (i + 1)).filter fun c => decide (μ * t < c)).map (· - μ * t))
                rw [show acc = _ from p, tk_yes hn (decide_eq_true h0), List.map_append, ← nv_snoc]
                rfl
              · rw [decide_eq_false h0]
                refine kF _ (Ex.refl _) ?_
                show acc = nv (((M.take (i + 1)).filter fun c => decide (μ * t < c)).map (· - μ * t))
                rw [show acc = _ from p, tk_no hn (decide_eq_false h0)]
            · intro acc H9 e9 hd9 p
              have p' : acc = nv (((M.take (nv M).length).filter fun c => decide (μ * t < c)).map (· - μ * t)) := p
              rw [nv_len, List.take_length] at p'
              subst p'
              generalize hG : (M.filter fun c => decide (μ * t < c)).map (· - μ * t) = G at hd9
              have hGm : ∀ y, y ∈ G ↔ ∃ c, c ∈ M ∧ μ * t < c ∧ y = c - μ * t := fun y => by
                rw [← hG, List.mem_map]
                constructor
                · rintro ⟨c, hc, rfl⟩
                  rw [List.mem_filter, decide_eq_true_iff] at hc
                  exact ⟨c, hc.1, hc.2, rfl⟩
                · rintro ⟨c, h1, h2, rfl⟩
                  exact ⟨c, List.mem_filter.mpr ⟨h1, decide_eq_true h2⟩, rfl⟩
              have hGl : G.length + 1 ≤ M.length := by
                rw [← hG, List.length_map]
                obtain ⟨M', rfl⟩ : ∃ M', M = μ :: M' := by
                  cases M with
                  | nil => simp at hM0
                  | cons y M' => exact ⟨M', by rw [show y = μ from Option.some.inj hM0]⟩
                have hle : μ ≤ μ * t := Nat.le_mul_of_pos_right μ t0
                rw [List.filter_cons, if_neg (by rw [decide_eq_true_iff]; omega)]
                exact Nat.succ_le_succ (List.length_filter_le _ _)
              refine ⟨_, rfl, _, rfl, D3, _, rfl, .inr (SqL.of hd9), ?_, fun l4 hl4 => ?_⟩
              · show (V.int (μ : Nat) :: (nv G ++ [])).length ≤ sizeLine
                rw [List.append_nil, List.length_cons, nv_len]
                exact Nat.le_of_lt (sz_lt (by omega))
              have e10 := e9.trans (ex_new (o := .lst (V.int (μ : Nat) :: (nv G ++ []))) hl4)
              have hl10 : (upd H9 l4 (.lst (V.int (μ : Nat) :: (nv G ++ [])))) l4 = some (.lst (nv (μ :: G))) := by rw [upd_same, List.append_nil]; rfl
              refine ⟨l4, zv (μ :: G), rfl, by rw [zv_nv]; exact SqL.of hl10, by rw [zv_len, List.length_cons]; omega, fun ps2 n2 hps2 hn2 => ⟨ps2, _, n2, rfl, upd_same, by rw [zv_len, List.length_cons] at hn2; omega, fun ks2 pl2 hs2 hm2 hll2 hpl2 => ?_⟩⟩
              rw [zv_len, List.length_cons] at hn2
              obtain ⟨M2, rfl, hM2s, hM2m⟩ := sorted_zv hs2 hm2
              rw [zv_len] at hll2
              have e11 := (e10.trans (ex_new hps2)).trans (ex_new (o := .lst ((zv M2).map V.int)) hpl2)
              have hM2w : ∀ d, d ∈ M2 ↔ Left (fun n => n ∈ M) μ t d := fun d => by
                rw [hM2m, List.mem_cons, hGm]
                rfl
              have hrem : c0 - μ * t ∈ M2 := (hM2w _).mpr (.inr ⟨c0, hc0M, by omega, rfl⟩)
              obtain ⟨b2, hb2⟩ : ∃ b2, M2[0]? = some b2 := ⟨_, List.getElem?_eq_getElem (List.length_pos_of_mem hrem)⟩
              obtain ⟨hb2M, hb2min⟩ := sorted_first hM2s hb2
              have hlt : b2 < μ := by have := hb2min _ hrem; omega
              refine ⟨b2, hlt, pl2, _, _, _, _, rs ++ [(μ, t)], vs ++ [.ref p1], M2, b2, rfl, e8.trans e11, e11 _ _ hr8, by rw [upd_same, zv_nv], ?_, ht8.ex e11, hM2s, by omega, fun y hy => ?_, .inr ⟨hb2, rfl, by omega, ?_, fun u hu => ?_, ?_⟩⟩
              · exact fun z => by
                  have := (e10.trans (ex_new (o := SetO w ps2 (fun j => decide (j ∈ zv (μ :: G))) n2) hps2)) _ _ hr8
                  rw [← z] at this
                  exact absurd (this.symm.trans hpl2) (fun z => by cases z)
              · rcases (hM2w y).mp hy with rfl | ⟨c, h1, h2, rfl⟩
                · exact b0
                · omega
              · rw [List.length_append, List.length_singleton]; omega
              · rcases List.mem_append.mp hu with h | h
                · exact hrs u h
                · rw [List.mem_singleton.mp h]; exact hb9
              · refine hW.step hbM t0 (fun c hc hlt2 => ?_) hlt hM2w
                apply Nat.dvd_of_mod_eq_zero
                apply Nat.eq_zero_of_not_pos
                intro h
                have h1 := htmin c hc h
                have h2 := Nat.mul_le_mul_left μ h1
                have h3 := Nat.mul_div_le c μ
                omega
end
end Bf
/-! Walks: what hangs together. -/
namespace Bf
theorem nd1 {α : Type} (a : α) : [a].Nodup := List.nodup_cons.mpr ⟨List.not_mem_nil, List.nodup_nil⟩
inductive Conn (S : Nat → Prop) (n : Nat) : Nat → Nat → Prop
  | refl (p) : Conn S n p p
  | up (p c) : S c → p + c ≤ n → Conn S n p (p + c)
  | symm {p q} : Conn S n p q → Conn S n q p
  | trans {p q r} : Conn S n p q → Conn S n q r → Conn S n p r
theorem least {P : Nat → Prop} (h : ∃ n, P n) : ∃ n, P n ∧ ∀ m, P m → n ≤ m := by
  obtain ⟨n, hn⟩ := h
  induction n using Nat.strongRecOn with
  | ind n ih =>
    by_cases h : ∃ m, m < n ∧ P m
    · obtain ⟨m, h1, h2⟩ := h
      exact ih m h1 h2
    · exact ⟨n, hn, fun m hm => Nat.le_of_not_lt fun hlt => h ⟨m, hlt, hm⟩⟩
theorem Conn.none {S : Nat → Prop} {n p q : Nat} (h : ∀ c, S c → n < c) (k : Conn S n p q) : p = q := by
  induction k with
  | refl => rfl
  | up p c hc hl => have := h c hc; omega
  | symm _ ih => exact ih.symm
  | trans _ _ ih1 ih2 => exact ih1.trans ih2
theorem Conn.cl : ∀ (n : Nat) (S : Nat → Prop), (∀ c, S c → 0 < c) → Conn S n 0 n → Cl S n := by
  intro n
  induction n using Nat.strongRecOn with
  | ind n ih =>
    intro S hp k
    by_cases n0 : n = 0
    · rw [n0]; exact .zero
    by_cases hn : S n
    · exact .mem hn
    have hex : ∃ c, S c ∧ c ≤ n := by
      apply Classical.byContradiction
      intro h
      have := k.none fun c hc => Nat.lt_of_not_le fun hl => h ⟨c, hc, hl⟩
      omega
    obtain ⟨a, ⟨ha, han⟩, hmin⟩ := least hex
    have a0 := hp a ha
    have hlt : a < n := Nat.lt_of_le_of_ne han fun e => hn (e ▸ ha)
    have hmin' : ∀ c, S c → a ≤ c := fun c hc => by
      by_cases h : c ≤ n
      · exact hmin c ⟨hc, h⟩
      · omega
    have hc := Cl.closed S
    let S' : Nat → Prop := fun d => d = a ∨ ∃ c, S c ∧ a < c ∧ d = c - a
    let φ : Nat → Nat := fun p => if p ≤ n - a then p else p - a
    have map : ∀ p q, Conn S n p q → Conn S' (n - a) (φ p) (φ q) := by
      intro p q h
      induction h with
      | refl p => exact .refl _
      | up p c hc hl =>
        have hac := hmin' c hc
        have e1 : φ p = p := if_pos (by omega)
        rw [e1]
        have mid : Conn S' (n - a) p (p + (c - a)) := by
          by_cases e : c = a
          · rw [e, Nat.sub_self]; exact .refl _
          · exact .up p (c - a) (.inr ⟨c, hc, by omega, rfl⟩) (by omega)
        by_cases h : p + c ≤ n - a
        · have e2 : φ (p + c) = p + (c - a) + a := by
            show (if p + c ≤ n - a then p + c else p + c - a) = _
            rw [if_pos h]; omega
          rw [e2]
          exact mid.trans (.up _ a (.inl rfl) (by omega))
        · have e2 : φ (p + c) = p + (c - a) := by
            show (if p + c ≤ n - a then p + c else p + c - a) = _
            rw [if_neg h]; omega
          rw [e2]
          exact mid
      | symm _ ih => exact ih.symm
      | trans _ _ ih1 ih2 => exact ih1.trans ih2
    have k' := map 0 n k
    have e0 : φ 0 = 0 := if_pos (Nat.zero_le _)
    have en : φ n = n - a := if_neg (by omega)
    rw [e0, en] at k'
    have := ih (n - a) (by omega) S' (fun d hd => by
      rcases hd with rfl | ⟨c, _, h2, rfl⟩
      · exact a0
      · omega) k'
    have sh : ∀ d, Cl S' d → Cl S (a + d) := fun d hd => hd.sub (A := fun d => Cl S (a + d)) ⟨.mem ha, fun x y z hx hy hz h1 h2 => by
      have := hc.cl _ _ _ hx hy hz (by omega) (by omega)
      rwa [show a + x + (a + y) - (a + z) = a + (x + y - z) by omega] at this⟩ fun d hd => by
        rcases hd with rfl | ⟨c, h1, h2, rfl⟩
        · exact hc.add (.mem ha) (.mem ha)
        · rw [show a + (c - a) = c by omega]
          exact .mem h1
    have := sh _ this
    rwa [show a + (n - a) = n by omega] at this
/-! ### marks -/
def Fit (M : Nat → Prop) (n c : Nat) : Prop := ∀ p, p + c ≤ n → (M p ↔ M (p + c))
theorem Fit.closed (M : Nat → Prop) (n : Nat) : Closed (Fit M n) := by
  refine ⟨fun p _ => by rw [Nat.add_zero], fun x y z hx hy hz hzx hzy p hp => ?_⟩
  have h1 := hx p (by omega)
  have h2 := hz (p + x - z) (by omega)
  have h3 := hy (p + x - z) (by omega)
  rw [show p + x - z + z = p + x by omega] at h2
  rw [show p + x - z + y = p + (x + y - z) by omega] at h3
  exact (h1.trans h2.symm).trans h3
/-- two positions a link apart -/
def Nb (S : Nat → Prop) (k p : Nat) : Prop := ∃ l, S l ∧ (k + l = p ∨ p + l = k)
theorem Nb.conn {S : Nat → Prop} {n k p : Nat} (h : Nb S k p) (hk : k ≤ n) (hp : p ≤ n) : Conn S n k p := by
  obtain ⟨l, hl, rfl | rfl⟩ := h
  · exact .up k l hl hp
  · exact (Conn.up p l hl hk).symm
/-- the search: keys in the order of finding, with what each was found from -/
structure BF (S : Nat → Prop) (n : Nat) (ps : List (Nat × Nat)) : Prop where
  first : ps[0]? = some (n, n)
  nd : (ps.map (·.1)).Nodup
  le : ∀ p ∈ ps, p.1 ≤ n
  par : ∀ i k p, ps[i + 1]? = some (k, p) → ∃ j q, j ≤ i ∧ ps[j]? = some (p, q) ∧ Nb S k p
theorem BF.start (S : Nat → Prop) (n : Nat) : BF S n [(n, n)] := ⟨rfl, nd1 n, fun p hp => by rw [List.mem_singleton.mp hp]; exact Nat.le_refl n, fun i k p h => by simp at h⟩
theorem BF.add {S : Nat → Prop} {n : Nat} {ps : List (Nat × Nat)} (h : BF S n ps) {j p q k : Nat} (hj : ps[j]? = some (p, q)) (hn : Nb S k p) (hk : k ≤ n) (hf : k ∉ ps.map (·.1)) : BF S n (ps ++ [(k, p)]) := by
  have hjl := (List.getElem?_eq_some_iff.mp hj).1
  refine ⟨by rw [List.getElem?_append_left (by omega)]; exact h.first, ?_, fun x hx => ?_, fun i k' p' hi => ?_⟩
  · rw [List.map_append]
    exact List.nodup_append.mpr ⟨h.nd, nd1 _, fun a ha b hb => by rw [List.mem_singleton.mp hb]; intro e; subst e; exact hf ha⟩
  · rcases List.mem_append.mp hx with hx | hx
    · exact h.le x hx
    · rw [List.mem_singleton.mp hx]; exact hk
  · by_cases hl : i + 1 < ps.length
    · rw [List.getElem?_append_left hl] at hi
      obtain ⟨j', q', h1, h2, h3⟩ := h.par i k' p' hi
      exact ⟨j', q', h1, by rw [List.getElem?_append_left (by omega)]; exact h2, h3⟩
    · have hb := (List.getElem?_eq_some_iff.mp hi).1
      rw [List.length_append, List.length_singleton] at hb
      have e : i + 1 = ps.length := by omega
      rw [List.getElem?_append_right (by omega), e, Nat.sub_self] at hi
      have hi' : (k, p) = (k', p') := Option.some.inj hi
      cases hi'
      exact ⟨j, q, by omega, by rw [List.getElem?_append_left hjl]; exact hj, hn⟩
theorem BF.len {S : Nat → Prop} {n : Nat} {ps : List (Nat × Nat)} (h : BF S n ps) : ps.length ≤ n + 1 := by
  have := nd_le (n + 1) (ps.map (·.1)) h.nd fun x hx => by
    obtain ⟨p, hp, rfl⟩ := List.mem_map.mp hx
    have := h.le p hp
    omega
  rwa [List.length_map] at this
theorem BF.conn {S : Nat → Prop} {n : Nat} {ps : List (Nat × Nat)} (h : BF S n ps) : ∀ (i k p : Nat), ps[i]? = some (k, p) → Conn S n k n := by
  intro i
  induction i using Nat.strongRecOn with
  | ind i ih =>
    intro k p hi
    cases i with
    | zero =>
      rw [h.first] at hi
      cases hi
      exact .refl _
    | succ i =>
      obtain ⟨j, q, h1, h2, h3⟩ := h.par i k p hi
      exact (h3.conn (h.le _ (List.mem_of_getElem? hi)) (h.le _ (List.mem_of_getElem? h2))).trans (ih j (by omega) _ _ h2)
/-- the first d of them are done -/
def Full (S : Nat → Prop) (n : Nat) (ps : List (Nat × Nat)) (d : Nat) : Prop := ∀ i k p, i < d → ps[i]? = some (k, p) → ∀ k', k' ≤ n → Nb S k k' → k' ∈ ps.map (·.1)
theorem BF.fit {S : Nat → Prop} {n : Nat} {ps : List (Nat × Nat)} (h : BF S n ps) (hf : Full S n ps ps.length) {c : Nat} (hc : Cl S c) : Fit (fun k => k ∈ ps.map (·.1)) n c := by
  have key : ∀ k, k ∈ ps.map (·.1) → ∀ k', k' ≤ n → Nb S k k' → k' ∈ ps.map (·.1) := fun k hk k' hk' hn => by
    obtain ⟨⟨a, b⟩, hx, rfl⟩ := List.mem_map.mp hk
    obtain ⟨i, hi⟩ := List.getElem?_of_mem hx
    exact hf i a b (List.getElem?_eq_some_iff.mp hi).1 hi k' hk' hn
  refine hc.sub (Fit.closed _ n) fun l hl p hp => ⟨fun hm => key p hm _ hp ⟨l, hl, .inl rfl⟩, fun hm => key _ hm p (by omega) ⟨l, hl, .inr rfl⟩⟩
theorem BF.keyN {S : Nat → Prop} {n : Nat} {ps : List (Nat × Nat)} (h : BF S n ps) : n ∈ ps.map (·.1) := List.mem_map.mpr ⟨(n, n), List.mem_of_getElem? h.first, rfl⟩
theorem BF.zero {S : Nat → Prop} {n : Nat} {ps : List (Nat × Nat)} (h : BF S n ps) (hf : Full S n ps ps.length) (hS : ∀ c, S c → 0 < c) : 0 ∈ ps.map (·.1) ↔ Cl S n := by
  constructor
  · intro h0
    obtain ⟨⟨a, b⟩, hx, e⟩ := List.mem_map.mp h0
    obtain ⟨i, hi⟩ := List.getElem?_of_mem hx
    have := h.conn i a b hi
    rw [show a = 0 from e] at this
    exact this.cl n S hS
  · intro hc
    have := h.fit hf hc 0 (by omega)
    rw [Nat.zero_add] at this
    exact this.mpr h.keyN
end Bf
namespace Bf
open PySem PySem.Spec PyProof.Rows L2 RZ PpSet
open C8 (Cal Met Mak Def cal0 met0 mak0 pe_c pe_mk pe_mt pe_mt0 fnScope fnBody InsC call_isC tCut pss_cut)
open Evl (Ex ex_l ex_t ex_rd fresh_back sz_of sz_lt)
section
variable {P : Program} {w : World} {K : PySem.W.Frag} {mg : Str → Option Value} {base : Heap}
theorem sc_tup {a D : Addr} {xs : List V} {g : TG} {tt : TT} {te : TE} {vs : List Nat} {σ : L2.St} {H1 : Hp} {Qd : Hp → Prop} (Pv : Nat → Hp → Prop) (h0 : Pv 0 (upd H1 D (SetO w D (fun _ => false) 0)))
    (hl : ∀ i H, Pv i H → SqT K H a xs) (hs : ∀ i x H, xs[i]? = some x → Pv i H → g x (wipe σ vs) H fun σ2 H2 => wipe σ2 vs = wipe σ vs ∧ tt σ2 H2 fun b H3 =>
      if b = true then te σ2 H3 fun y H4 => ∃ (c : Int) (S : Int → Bool) (n : Nat), y = .int c ∧ H4 D = some (SetO w D S n) ∧ n + 1 < scanBound ∧ Pv (i + 1) (upd H4 D (SetO w D (fun j => S j || decide (j = c)) (if S c = true then n else n + 1))) else Pv (i + 1) H3)
    (hd : ∀ H, Pv xs.length H → Qd H) :
    ∃ W : Nat → Nat → Hp → Prop, (∃ m, W 0 m (upd H1 D (SetO w D (fun _ => false) 0))) ∧ ∀ i m H, W i m H →
      ((Itt K a).stop i H ∧ Qd H) ∨ ((Itt K a).go i H ∧ ∃ Nx : Hp → Prop, (∀ H', Nx H' → ∃ m', m' < m ∧ W (i + 1) m' H') ∧
        ∀ x H', (Itt K a).yld i H x H' → g x (wipe σ vs) H' fun σ2 H2 => wipe σ2 vs = wipe σ vs ∧ tt σ2 H2 fun b H3 =>
          if b = true then te σ2 H3 fun y H4 => ∃ (c : Int) (S : Int → Bool) (n : Nat), y = .int c ∧ H4 D = some (SetO w D S n) ∧ n + 1 < scanBound ∧ Nx (upd H4 D (SetO w D (fun j => S j || decide (j = c)) (if S c = true then n else n + 1)))
          else Nx H3) := by
  refine ⟨fun i m H => m + i = xs.length ∧ Pv i H, ⟨xs.length, rfl, h0⟩, ?_⟩
  rintro i m H ⟨hm, p⟩
  have q := hl i H p
  cases m with
  | zero =>
    rw [Nat.zero_add] at hm
    subst hm
    exact .inl ⟨⟨xs, q, Nat.le_refl _⟩, hd H p⟩
  | succ m =>
    have hi : i < xs.length := by omega
    refine .inr ⟨⟨xs, xs[i], q, List.getElem?_eq_getElem hi⟩, Pv (i + 1), fun H' p' => ⟨m, Nat.lt_succ_self m, by omega, p'⟩, ?_⟩
    rintro x H' ⟨rfl, y⟩
    exact hs i x _ (y xs q) p
abbrev s_links_of : Stmt := topS 46
abbrev N_links_of : List Str := ["counts", "count"]
theorem sc_links_of : FnScope N_links_of ["counts"] (fnScope s_links_of) := ⟨rfl, rfl, rfl, by decide +kernel, rfl, by decide +kernel, by decide +kernel⟩
def spLinks (K : PySem.W.Frag) : Sp := sp1 fun x H Q => ∃ a, ∃ ns : List Nat, x = .ref a ∧ SqL K H a (nv ns) ∧ ns.length ≤ 60 ∧ ∀ p L H', Ex H H' → H' p = some (.lst (nv L)) → L.length ≤ 60 → (∀ y, y ∈ L ↔ y ∈ ns ∧ 0 < y) → Q (.ref p) H'
theorem c_links_of (d : DefB K mg "links_of" s_links_of ["counts"]) (Z : Zb mg) (c_checked_counts : Cal P w K mg base 3 "checked_counts" (spCounts K) []) : Cal P w K mg base 4 "links_of" (spLinks K) [] := by
  refine cal_of d sc_links_of len1 fun vs0 H Q E h f0 cdv A outer s E' hr => ?_
  obtain ⟨x, rfl, a, ns, rfl, ha, hz, q⟩ := h
  refine ⟨_, (pss_one (ps_ret (pe_callB (cr_sortedSet rfl) (by rfl) Z.sorted (by decide +kernel) (pa_cons (pe_sci (own := [("count", 1)]) rfl sc_links_of.nd (pi_tupK K rfl (pe_c c_checked_counts hr (by decide) (by rfl) (pa_cons (pv 0) pa_nil))) (blkOk_by (own := [("count", 1)]) (N := N_links_of) (sc := fnScope s_links_of) (by decide +kernel)) (fun _ _ _ _ _ => (pg_name (i := 1) sc_links_of.nd rfl (Or.inl rfl))) (fun _ _ _ _ _ => (pts_one (pt_cmpR on_gt (pv 1) pe_int (nomark _)))) (fun _ _ _ _ _ => (pv 1))) pa_nil)))), ?_⟩
  refine ⟨_, rfl, _, rfl, a, ns, rfl, ha, by omega, fun p0 H0 e0 hp0 => ⟨p0, rfl, ⟨_, hp0⟩, fun D hD => ?_⟩⟩
  have fin : ∀ (H1 : Hp) (S : Int → Bool) (n : Nat), Ex H0 H1 → H1 D = some (SetO w D S n) → n ≤ ns.length → (∀ k : Int, S k = true ↔ ∃ y ∈ ns, 0 < y ∧ (y : Int) = k) → rSortedSet w [.ref D] H1 Q := by
    intro H1 S n e1 hd hn hS
    refine ⟨D, S, n, rfl, hd, by omega, fun ks pl hs hm hl hpl => ?_⟩
    obtain ⟨L, rfl, _, hLm⟩ := sorted_nat (P := fun y => y ∈ ns ∧ 0 < y) hs (fun k hk => by
      obtain ⟨y, h1, h2, h3⟩ := (hS k).mp ((hm k).mp hk)
      exact ⟨y, h3, h1, h2⟩) fun y hy => (hm y).mpr ((hS y).mpr ⟨y, hy.1, hy.2, rfl⟩)
    rw [zv_len] at hl
    exact q pl L _ ((e0.trans e1).trans (ex_new hpl)) (by rw [upd_same, zv_nv]) (by omega) hLm
  refine sc_tup (xs := nv ns) (fun i H1 => ∃ (S : Int → Bool) (n : Nat), Ex H0 H1 ∧ H1 D = some (SetO w D S n) ∧ n ≤ i ∧ ∀ k : Int, S k = true ↔ ∃ y ∈ ns.take i, 0 < y ∧ (y : Int) = k)
    ⟨fun _ => false, 0, ex_new hD, upd_same, Nat.le_refl _, fun k => by simp⟩ (fun i H1 p => by obtain ⟨_, _, e, _⟩ := p; exact ex_t e hp0) ?_ ?_
  · rintro i x H1 hi ⟨S, n, e1, hd, hn, hS⟩
    obtain ⟨y, hy, rfl⟩ := nv_at hi
    have hil := (List.getElem?_eq_some_iff.mp hy).1
    refine ⟨rfl, _, rfl, y, 0, rfl, rfl, _, rfl, ?_⟩
    by_cases h0 : 0 < y
    · rw [decide_eq_true h0]
      refine ⟨_, rfl, (y : Int), S, n, rfl, hd, Nat.lt_of_lt_of_le (show n + 1 < 64 by omega) (by decide), _, _, ex_mut e1 hD, upd_same, by split <;> omega, fun k => ?_⟩
      rw [Bool.or_eq_true, decide_eq_true_iff, hS, tk hy]
      constructor
      · rintro (⟨z, h1, h2, h3⟩ | rfl)
        · exact ⟨z, List.mem_append_left _ h1, h2, h3⟩
        · exact ⟨y, List.mem_append_right _ (List.mem_singleton.mpr rfl), h0, rfl⟩
      · rintro ⟨z, h1, h2, h3⟩
        rcases List.mem_append.mp h1 with h1 | h1
        · exact .inl ⟨z, h1, h2, h3⟩
        · rw [List.mem_singleton.mp h1] at h3
          exact .inr h3.symm
    · rw [decide_eq_false h0]
      refine ⟨S, n, e1, hd, by omega, fun k => ?_⟩
      rw [hS, tk hy]
      constructor
      · rintro ⟨z, h1, h2, h3⟩
        exact ⟨z, List.mem_append_left _ h1, h2, h3⟩
      · rintro ⟨z, h1, h2, h3⟩
        rcases List.mem_append.mp h1 with h1 | h1
        · exact ⟨z, h1, h2, h3⟩
        · rw [List.mem_singleton.mp h1] at h2
          exact absurd h2 h0
  · rintro H1 ⟨S, n, e1, hd, hn, hS⟩
    rw [nv_len] at hn hS
    rw [List.take_length] at hS
    exact fin H1 S n e1 hd hn hS
/-! ### the search -/
def dk (ps : List (Nat × Nat)) : List (Key × V) := ps.map fun p => ((Sum.inl (p.1 : Int) : Key), V.int (p.2 : Int))
theorem dk_len (ps : List (Nat × Nat)) : (dk ps).length = ps.length := by unfold dk; rw [List.length_map]
theorem val_dk (ps : List (Nat × Nat)) (k : Nat) :
    (∀ v, valV (dk ps) (Sum.inl (k : Int)) = some v → ∃ i p : Nat, ps[i]? = some (k, p) ∧ v = V.int (p : Int)) ∧ (valV (dk ps) (Sum.inl (k : Int)) = none → k ∉ ps.map (·.1)) := by
  unfold valV dk
  constructor
  · intro v h
    obtain ⟨kv, h1, h2⟩ := Option.map_eq_some_iff.mp h
    have h3 := List.find?_some h1
    obtain ⟨⟨x, p⟩, hx, rfl⟩ := List.mem_map.mp (List.mem_of_find?_eq_some h1)
    have h5 : (Sum.inl (x : Int) : Key) = Sum.inl (k : Int) := of_decide_eq_true h3
    injection h5 with h6
    obtain ⟨i, hi⟩ := List.getElem?_of_mem hx
    have : x = k := by omega
    subst this
    exact ⟨i, p, hi, h2.symm⟩
  · intro h hk
    obtain ⟨⟨x, p⟩, hx, rfl⟩ := List.mem_map.mp hk
    have h1 := Option.map_eq_none_iff.mp h
    exact List.find?_eq_none.mp h1 _ (List.mem_map.mpr ⟨(x, p), hx, rfl⟩) (decide_eq_true rfl)
theorem put_dk (ps : List (Nat × Nat)) (k p : Nat) (h : k ∉ ps.map (·.1)) : putK (dk ps) (Sum.inl (k : Int)) (V.int (p : Int)) = dk (ps ++ [(k, p)]) := by
  unfold putK
  have hn : ¬ ((dk ps).any fun kv => decide (kv.1 = Sum.inl (k : Int))) = true := fun z => by
    obtain ⟨kv, h1, h2⟩ := List.any_eq_true.mp z
    obtain ⟨⟨x, p'⟩, hx, rfl⟩ := List.mem_map.mp h1
    have h5 : (Sum.inl (x : Int) : Key) = Sum.inl (k : Int) := of_decide_eq_true h2
    injection h5 with h6
    have : x = k := by omega
    subst this
    exact h (List.mem_map.mpr ⟨_, hx, rfl⟩)
  rw [if_neg hn]
  unfold dk
  rw [List.map_append]
  rfl
def kl (ps : List (Nat × Nat)) : List Nat := ps.map (·.1)
/-- the neighbours up to n of p by the links so far are found -/
def Seen (S : Nat → Prop) (n : Nat) (ps : List (Nat × Nat)) (p : Nat) : Prop := ∀ k, k ≤ n → Nb S p k → k ∈ ps.map (·.1)
theorem Full.snoc {S : Nat → Prop} {n : Nat} {ps : List (Nat × Nat)} {d : Nat} (h : Full S n ps d) (x : Nat × Nat) (hd : d ≤ ps.length) : Full S n (ps ++ [x]) d := fun i k p hi hp k' hk hn => by
  rw [List.getElem?_append_left (by omega)] at hp
  rw [List.map_append]
  exact List.mem_append_left _ (h i k p hi hp k' hk hn)
theorem Full.next {S : Nat → Prop} {n : Nat} {ps : List (Nat × Nat)} {d k p : Nat} (h : Full S n ps d) (hd : ps[d]? = some (k, p)) (hs : Seen S n ps k) : Full S n ps (d + 1) := fun i k' p' hi hp k'' hk hn => by
  by_cases e : i = d
  · subst e
    rw [hd] at hp
    cases hp
    exact hs k'' hk hn
  · exact h i k' p' (by omega) hp k'' hk hn
abbrev s_nearer : Stmt := topS 47
abbrev N_nearer : List Str := ["links", "count", "found", "queue", "done", "at", "link", "to"]
theorem sc_nearer : FnScope N_nearer ["links", "count"] (fnScope s_nearer) := ⟨rfl, rfl, rfl, by decide +kernel, rfl, by decide +kernel, by decide +kernel⟩
def spNearer (K : PySem.W.Frag) : Sp := sp2 fun x y H Q => ∃ a, ∃ (L : List Nat) (n : Nat), x = .ref a ∧ y = .int n ∧ SqL K H a (nv L) ∧ n ≤ 1000 ∧
  ∀ p ps H', Ex H H' → H' p = some (.dK (dk ps)) → BF (fun l => l ∈ L) n ps → Full (fun l => l ∈ L) n ps ps.length → Q (.ref p) H'
theorem c_nearer (d : DefB K mg "nearer" s_nearer ["links", "count"]) (Z : Zb mg) : Cal P w K mg base 1 "nearer" (spNearer K) [] := by
  refine cal_of d sc_nearer len2 fun vs0 H Q E h f0 cdv A outer s E' hr => ?_
  obtain ⟨x, y, rfl, a, L, n, rfl, rfl, ha, hz, q⟩ := h
  refine ⟨_, (pss_cons (ps_par3 (i := 2) (j := 3) (l := 4) (by rfl) sc_nearer.nd rfl rfl rfl (by decide) (by decide) (by decide) rfl rfl rfl (pa_cons (pe_disp (pps_cons (pv 1) (pv 1) pps_nil) (by rfl) (by rfl) (fun z => by cases z) (by decide)) (pa_cons (pe_lst (pa_cons (pv 1) pa_nil)) (pa_cons pe_int pa_nil))) (by rfl))
      (pss_cons (ps_while PassesOwn.never (pt_cmpR op_lt (pv 4) (pe_callB (call_lenK K) (by rfl) Z.len (by decide +kernel) (pa_cons (pv 3) pa_nil)) (nomark _))
        (pss_cons (ps_set (i := 5) sc_nearer.nd rfl (Or.inl rfl) (pe_ix (ix_listK K) (pv 3) (pv 4) (fun _ _ => rfl)))
        (pss_cons (ps_set (i := 4) sc_nearer.nd rfl (Or.inl rfl) (pe_op op_add (pv 4) pe_int))
        (pss_one (ps_for PassesOwn.never rfl (pi_listK K rfl (pv 0)) (pg_name (i := 6) sc_nearer.nd rfl (Or.inl rfl))
          (pss_one (ps_for PassesOwn.never rfl (pi_tupK K rfl (pe_tup (pa_cons (pe_op op_sub (pv 5) (pv 6)) (pa_cons (pe_op op_add (pv 5) (pv 6)) pa_nil)))) (pg_name (i := 7) sc_nearer.nd rfl (Or.inl rfl))
            (pss_one (ps_if (PW.pt (pw_and (pt_chain op_le op_le pe_int (pv 7) (pv 1)) (pw_and1 (pt_cmp (pc_dnotin (hu_of hr) (pv 7) (pv 2))))))
              (pss_cons (ps_dput (hu_of hr) (pv 2) (pv 7) (pv 5) rfl)
              (pss_one (ps_expr (pe_bm PySem.F.plainAttrs_list PySem.F.slot_list_append PySem.F.type_list_append mt_append (pv 3) (pa_cons (pv 7) pa_nil)))))
              pss_nil)))))))))
      (pss_one (ps_ret (pv 2))))), ?_⟩
  refine fun dd hdd => ⟨_, rfl, _, rfl, upd_same, [(Sum.inl (n : Int), V.int (n : Int))], rfl, by show 1 ≤ 15; decide, ?_⟩
  refine ⟨_, rfl, by show 1 ≤ sizeLine; decide, fun l hl => ⟨_, _, _, rfl, ?_⟩⟩
  have nld : l ≠ dd := fun z => by rw [z, upd_same] at hl; cases hl
  have hl0 : H l = none := by rw [upd_ne nld, upd_ne nld] at hl; exact hl
  have e0 : Ex H (upd (upd (upd H dd (.dK [])) dd (.dK (mergeK [] [((Sum.inl (n : Int) : Key), V.int (n : Int))]))) l (.lst [V.int (n : Int)])) := ((ex_new hdd).mut hdd).trans (ex_new hl)
  have hd0 : (upd (upd (upd H dd (.dK [])) dd (.dK (mergeK [] [((Sum.inl (n : Int) : Key), V.int (n : Int))]))) l (.lst [V.int (n : Int)])) dd = some (.dK (dk [(n, n)])) := by
    rw [upd_ne (Ne.symm nld), upd_same]
    rfl
  refine ⟨fun μ σ H' => ∃ ps dn u v z, μ = n + 1 - dn ∧ σ = [some (.ref a), some (.int (n : Nat)), some (.ref dd), some (.ref l), some (.int (dn : Nat)), u, v, z] ∧ Ex H H' ∧ H' dd = some (.dK (dk ps)) ∧ H' l = some (.lst (nv (kl ps))) ∧
    BF (fun l => l ∈ L) n ps ∧ Full (fun l => l ∈ L) n ps dn ∧ dn ≤ ps.length, ⟨n + 1, [(n, n)], 0, none, none, none, rfl, rfl, e0, hd0, upd_same, BF.start _ n, fun i k p h => absurd h (Nat.not_lt_zero i), Nat.zero_le _⟩, ?_⟩
  rintro μ σ H1 ⟨ps, dn, u, v, z, rfl, rfl, e1, hd1, hl1, hB, hF, hdn⟩
  have kll : (nv (kl ps)).length = ps.length := by unfold kl; rw [nv_len, List.length_map]
  refine ⟨_, rfl, _, rfl, l, _, rfl, .inl (SqL.of hl1), _, _, rfl, rfl, _, rfl, ?_⟩
  by_cases hlt : dn < ps.length
  · rw [decide_eq_true (show (dn : Int) < ((nv (kl ps)).length : Int) by rw [kll]; omega)]
    have hBl := hB.len
    obtain ⟨⟨k, par⟩, hk⟩ : ∃ x, ps[dn]? = some x := ⟨_, List.getElem?_eq_getElem hlt⟩
    have hkn := hB.le _ (List.mem_of_getElem? hk)
    have hkn : k ≤ n := hkn
    have hkq : (kl ps)[dn]? = some k := by unfold kl; rw [List.getElem?_map, hk]; rfl
    refine ⟨fun σ' H' => ∃ ps' u' v' z', σ' = [some (.ref a), some (.int (n : Nat)), some (.ref dd), some (.ref l), some (.int ((dn + 1 : Nat) : Int)), u', v', z'] ∧ Ex H H' ∧ H' dd = some (.dK (dk ps')) ∧ H' l = some (.lst (nv (kl ps'))) ∧
      BF (fun l => l ∈ L) n ps' ∧ Full (fun l => l ∈ L) n ps' (dn + 1) ∧ dn + 1 ≤ ps'.length, fun σ' H' ⟨ps', u', v', z', h1, h2, h3, h4, h5, h6, h7⟩ => ⟨n + 1 - (dn + 1), by omega, ps', dn + 1, u', v', z', rfl, h1, h2, h3, h4, h5, h6, h7⟩, ?_⟩
    refine ⟨_, rfl, _, rfl, l, _, dn, _, rfl, rfl, SqL.of hl1, atI_nat (nv_get hkq), _, rfl, _, _, rfl, rfl, ?_⟩
    refine ⟨_, rfl, a, rfl, ⟨_, ex_l e1 ha⟩, for_list (xs := nv L) (fun i σ' H' => ∃ ps' v' z', σ' = [some (.ref a), some (.int (n : Nat)), some (.ref dd), some (.ref l), some (.int ((dn + 1 : Nat) : Int)), some (.int (k : Nat)), v', z'] ∧ Ex H H' ∧ H' dd = some (.dK (dk ps')) ∧ H' l = some (.lst (nv (kl ps'))) ∧
      BF (fun l => l ∈ L) n ps' ∧ Full (fun l => l ∈ L) n ps' dn ∧ ps'[dn]? = some (k, par) ∧ Seen (fun l => l ∈ L.take i) n ps' k) ⟨ps, v, z, rfl, e1, hd1, hl1, hB, hF, hk, fun k' _ hn => by obtain ⟨t, ht, _⟩ := hn; simp at ht⟩
      (fun i σ' H' _ p => by obtain ⟨_, _, _, _, e, _⟩ := p; exact ex_l e ha) ?_ ?_⟩
    · rintro i x σ' H2 hi ⟨p2, v2, z2, rfl, e2, hd2, hl2, hB2, hF2, hk2, hS2⟩
      obtain ⟨t, ht, rfl⟩ := nv_at hi
      have htL := List.mem_of_getElem? ht
      refine ⟨_, rfl, _, rfl, _, _, rfl, rfl, _, rfl, _, rfl, _, _, rfl, rfl, by show 2 ≤ sizeLine; decide, fun tp htp => ?_⟩
      have e3 := e2.trans (ex_new (o := .tup [.int ((k : Int) - (t : Int)), .int ((k : Int) + (t : Int))]) htp)
      have hd3 := ex_new (o := .tup [.int ((k : Int) - (t : Int)), .int ((k : Int) + (t : Int))]) htp _ _ hd2
      have hl3 := ex_new (o := .tup [.int ((k : Int) - (t : Int)), .int ((k : Int) + (t : Int))]) htp _ _ hl2
      have ht3 : SqT K (upd H2 tp (.tup [.int ((k : Int) - (t : Int)), .int ((k : Int) + (t : Int))])) tp [.int ((k : Int) - (t : Int)), .int ((k : Int) + (t : Int))] := SqT.of upd_same
      generalize (upd H2 tp (.tup [.int ((k : Int) - (t : Int)), .int ((k : Int) + (t : Int))])) = H3 at e3 hd3 hl3 ht3 ⊢
      refine ⟨tp, rfl, ⟨_, ht3⟩, for_tup (xs := [.int ((k : Int) - (t : Int)), .int ((k : Int) + (t : Int))]) (fun j σ' H' => ∃ ps' z', σ' = [some (.ref a), some (.int (n : Nat)), some (.ref dd), some (.ref l), some (.int ((dn + 1 : Nat) : Int)), some (.int (k : Nat)), some (.int (t : Nat)), z'] ∧ Ex H H' ∧ H' dd = some (.dK (dk ps')) ∧ H' l = some (.lst (nv (kl ps'))) ∧
        BF (fun l => l ∈ L) n ps' ∧ Full (fun l => l ∈ L) n ps' dn ∧ ps'[dn]? = some (k, par) ∧ Seen (fun l => l ∈ L.take i) n ps' k ∧ SqT K H' tp [.int ((k : Int) - (t : Int)), .int ((k : Int) + (t : Int))] ∧
        (1 ≤ j → ∀ k', k' ≤ n → k' + t = k → k' ∈ ps'.map (·.1)) ∧ (2 ≤ j → ∀ k', k' ≤ n → k + t = k' → k' ∈ ps'.map (·.1)))
        ⟨p2, z2, rfl, e3, hd3, hl3, hB2, hF2, hk2, hS2, ht3, fun h => by omega, fun h => by omega⟩ (fun j σ' H' _ p => by obtain ⟨_, _, _, _, _, _, _, _, _, _, h, _⟩ := p; exact h) ?_ ?_⟩
      · rintro j x σ' H4 hj ⟨p4, z4, rfl, e4, hd4, hl4, hB4, hF4, hk4, hS4, ht4, h41, h42⟩
        -- which number
        obtain ⟨zz, rfl, hzz⟩ : ∃ zz : Int, x = .int zz ∧ ((j = 0 ∧ zz = (k : Int) - t) ∨ (j = 1 ∧ zz = (k : Int) + t)) := by
          match j, hj with
          | 0, hj => cases hj; exact ⟨_, rfl, .inl ⟨rfl, rfl⟩⟩
          | 1, hj => cases hj; exact ⟨_, rfl, .inr ⟨rfl, rfl⟩⟩
          | j + 2, hj => simp at hj
        have keep : ∀ p5 : List (Nat × Nat), (∀ y, y ∈ p4.map (·.1) → y ∈ p5.map (·.1)) → (∀ k' : Nat, k' ≤ n → (k' : Int) = zz → k' ∈ p5.map (·.1)) →
            (1 ≤ j + 1 → ∀ k', k' ≤ n → k' + t = k → k' ∈ p5.map (·.1)) ∧ (2 ≤ j + 1 → ∀ k', k' ≤ n → k + t = k' → k' ∈ p5.map (·.1)) := by
          intro p5 h1 h2
          rcases hzz with ⟨rfl, rfl⟩ | ⟨rfl, rfl⟩
          · exact ⟨fun _ k' h3 h4 => h2 k' h3 (by omega), fun h => by omega⟩
          · exact ⟨fun _ k' h3 h4 => h1 _ (h41 (by omega) k' h3 h4), fun _ k' h3 h4 => h2 k' h3 (by omega)⟩
        have stay : ∀ (_ : ∀ k' : Nat, k' ≤ n → (k' : Int) = zz → k' ∈ p4.map (·.1)), ∃ ps' z', [some (V.ref a), some (.int (n : Nat)), some (.ref dd), some (.ref l), some (.int ((dn + 1 : Nat) : Int)), some (.int (k : Nat)), some (.int (t : Nat)), some (V.int zz)] = [some (.ref a), some (.int (n : Nat)), some (.ref dd), some (.ref l), some (.int ((dn + 1 : Nat) : Int)), some (.int (k : Nat)), some (.int (t : Nat)), z'] ∧ Ex H H4 ∧ H4 dd = some (.dK (dk ps')) ∧ H4 l = some (.lst (nv (kl ps'))) ∧
            BF (fun l => l ∈ L) n ps' ∧ Full (fun l => l ∈ L) n ps' dn ∧ ps'[dn]? = some (k, par) ∧ Seen (fun l => l ∈ L.take i) n ps' k ∧ SqT K H4 tp [.int ((k : Int) - (t : Int)), .int ((k : Int) + (t : Int))] ∧
            (1 ≤ j + 1 → ∀ k', k' ≤ n → k' + t = k → k' ∈ ps'.map (·.1)) ∧ (2 ≤ j + 1 → ∀ k', k' ≤ n → k + t = k' → k' ∈ ps'.map (·.1)) := fun h =>
          ⟨p4, _, rfl, e4, hd4, hl4, hB4, hF4, hk4, hS4, ht4, keep p4 (fun _ h => h) h⟩
        refine ⟨_, rfl, 0, zz, rfl, rfl, _, rfl, ?_⟩
        by_cases hz0 : 0 ≤ zz
        · obtain ⟨k', rfl⟩ : ∃ k' : Nat, zz = (k' : Int) := ⟨zz.toNat, by omega⟩
          rw [decide_eq_true hz0]
          refine ⟨_, rfl, k', n, rfl, rfl, _, rfl, ?_⟩
          by_cases hkk : k' ≤ n
          · rw [decide_eq_true (show (k' : Int) ≤ (n : Int) by omega)]
            have vd := val_dk p4 k'
            refine ⟨_, rfl, _, rfl, dd, _, rfl, DGet.k (k := Sum.inl (k' : Int)) hd4, _, rfl, ?_⟩
            generalize ho : valV (dk p4) (Sum.inl (k' : Int)) = o at vd
            cases o with
            | some vv =>
              refine stay fun k2 _ h2 => ?_
              obtain ⟨ii, pp, hii, _⟩ := vd.1 vv rfl
              have : k2 = k' := by omega
              subst this
              exact List.mem_map.mpr ⟨_, List.mem_of_getElem? hii, rfl⟩
            | none =>
              have hnk := vd.2 rfl
              have hB5 := hB4.len
              refine ⟨_, rfl, _, rfl, _, rfl, dd, _, rfl, DPut.k (k := Sum.inl (k' : Int)) hd4 (sz_lt (by rw [dk_len]; omega)), ?_⟩
              rw [put_dk p4 k' k hnk]
              have hdt : (upd H4 dd (.dK (dk (p4 ++ [(k', k)])))) l = some (.lst (nv (kl p4))) := by rw [upd_ne nld]; exact hl4
              refine ⟨_, rfl, .inl ⟨rfl, _, SqL.of hdt⟩, _, rfl, l, _, _, rfl, rfl, hdt, sz_lt (by unfold kl; rw [nv_len, List.length_map]; omega), ?_⟩
              have hNb : Nb (fun l => l ∈ L) k' k := ⟨t, htL, by rcases hzz with ⟨_, h⟩ | ⟨_, h⟩ <;> omega⟩
              refine ⟨p4 ++ [(k', k)], _, rfl, ex_mut (ex_mut e4 hdd) hl0, by rw [upd_ne (Ne.symm nld), upd_same], ?_, hB4.add hk4 hNb hkk hnk, hF4.snoc _ (by have := (List.getElem?_eq_some_iff.mp hk4).1; omega), ?_, ?_, ?_, keep _ (fun y hy => by rw [List.map_append]; exact List.mem_append_left _ hy) fun k2 _ h2 => ?_⟩
              · rw [upd_same]
                unfold kl
                rw [List.map_append, ← nv_snoc]
                rfl
              · rw [List.getElem?_append_left (List.getElem?_eq_some_iff.mp hk4).1]
                exact hk4
              · intro y hy hn
                rw [List.map_append]
                exact List.mem_append_left _ (hS4 y hy hn)
              · refine tup_upd hdt ?_
                rcases ht4 with (h | ⟨u, h⟩) | h
                · exact .inl (.inl (by rw [upd_ne (ne_of h hd4 (by intro z; cases z))]; exact h))
                · exact .inl (.inr ⟨u, by rw [upd_ne (ne_of h hd4 (by intro z; cases z))]; exact h⟩)
                · exact .inr h
              · have : k2 = k' := by omega
                subst this
                rw [List.map_append]
                exact List.mem_append_right _ (List.mem_singleton.mpr rfl)
          · rw [decide_eq_false (show ¬ (k' : Int) ≤ (n : Int) by omega)]
            exact stay fun k2 h1 h2 => absurd h1 (by omega)
        · rw [decide_eq_false hz0]
          exact ⟨_, rfl, stay fun k2 h1 h2 => absurd h2 (by omega)⟩
      · rintro σ' H4 ⟨p4, z4, rfl, e4, hd4, hl4, hB4, hF4, hk4, hS4, ht4, h41, h42⟩
        refine ⟨p4, _, _, rfl, e4, hd4, hl4, hB4, hF4, hk4, fun k' hk' hn => ?_⟩
        obtain ⟨t', ht', h⟩ := hn
        rw [tk ht] at ht'
        rcases List.mem_append.mp ht' with h1 | h1
        · exact hS4 k' hk' ⟨t', h1, h⟩
        · rw [List.mem_singleton.mp h1] at h
          rcases h with h | h
          · exact h42 (Nat.le_refl _) k' hk' h
          · exact h41 (by show 1 ≤ 2; decide) k' hk' h
    · rintro σ' H2 ⟨p2, v2, z2, rfl, e2, hd2, hl2, hB2, hF2, hk2, hS2⟩
      rw [nv_len, List.take_length] at hS2
      exact ⟨p2, _, _, _, rfl, e2, hd2, hl2, hB2, hF2.next hk2 hS2, (List.getElem?_eq_some_iff.mp hk2).1⟩
  · rw [decide_eq_false (show ¬ (dn : Int) < ((nv (kl ps)).length : Int) by rw [kll]; omega)]
    have : dn = ps.length := by omega
    subst this
    exact ⟨_, rfl, q dd ps H1 e1 hd1 hB hF⟩
end
end Bf
namespace Bf
open PySem PySem.Spec PyProof.Rows L2 RZ PpSet
open C8 (Cal Met Mak Def cal0 met0 mak0 pe_c pe_mk pe_mt pe_mt0 fnScope fnBody InsC call_isC tCut pss_cut)
open Evl (Ex ex_l ex_t ex_rd fresh_back sz_of sz_lt)
section
variable {P : Program} {w : World} {K : PySem.W.Frag} {mg : Str → Option Value} {base : Heap}
structure Hang (ns : List Nat) (n : Nat) (M : List Nat) : Prop where
  up : M.Pairwise (· < ·)
  le : ∀ y ∈ M, y ≤ n
  top : n ∈ M
  fit : ∀ c, Cl (fun y => y ∈ ns) c → Fit (fun y => y ∈ M) n c
  zero : 0 ∈ M ↔ Cl (fun y => y ∈ ns) n
theorem cl_links {ns L : List Nat} (h : ∀ y, y ∈ L ↔ y ∈ ns ∧ 0 < y) (c : Nat) : Cl (fun y => y ∈ L) c ↔ Cl (fun y => y ∈ ns) c :=
  ⟨Cl.congr fun y hy => .inr ((h y).mp hy).1, Cl.congr fun y hy => by
    by_cases h0 : y = 0
    · exact .inl h0
    · exact .inr ((h y).mpr ⟨hy, by omega⟩)⟩
abbrev s_hanging : Stmt := topS 48
abbrev N_hanging : List Str := ["counts", "count"]
theorem sc_hanging : FnScope N_hanging ["counts", "count"] (fnScope s_hanging) := ⟨rfl, rfl, rfl, by decide +kernel, rfl, by decide +kernel, by decide +kernel⟩
def spHanging (K : PySem.W.Frag) : Sp := sp2 fun x y H Q => ∃ a, ∃ (ns : List Nat) (n : Nat), x = .ref a ∧ y = .int n ∧ SqL K H a (nv ns) ∧ ns.length ≤ 60 ∧ n ≤ 60 ∧ ∀ p M H', Ex H H' → SqT K H' p (nv M) → Hang ns n M → Q (.ref p) H'
theorem c_hanging (d : DefB K mg "hanging" s_hanging ["counts", "count"]) (Z : Zb mg) (c_links_of : Cal P w K mg base 4 "links_of" (spLinks K) []) (c_nearer : Cal P w K mg base 1 "nearer" (spNearer K) []) : Cal P w K mg base 5 "hanging" (spHanging K) [] := by
  refine cal_of d sc_hanging len2 fun vs0 H Q E h f0 cdv A outer s E' hr => ?_
  obtain ⟨x, y, rfl, a, ns, n, rfl, rfl, ha, hz, hn, q⟩ := h
  refine ⟨_, (pss_one (ps_ret (pe_callTy (call_tupK K) (by rfl) Z.tuple_ (by decide +kernel) (pa_cons (pe_callB (call_sortedDI rfl) (by rfl) Z.sorted (by decide +kernel) (pa_cons (pe_c c_nearer hr (by decide) (by rfl) (pa_cons (pe_c c_links_of hr (by decide) (by rfl) (pa_cons (pv 0) pa_nil)) (pa_cons (pv 1) pa_nil))) pa_nil)) pa_nil)))), ?_⟩
  refine ⟨_, rfl, _, rfl, a, ns, rfl, ha, hz, fun p1 L H1 e1 hp1 _ hL => ?_⟩
  refine ⟨_, rfl, _, _, rfl, p1, L, n, rfl, rfl, SqL.of hp1, by omega, fun p2 ps H2 e2 hp2 hB hF => ?_⟩
  have hBl := hB.len
  refine ⟨p2, dk ps, zv (kl ps), rfl, .of hp2, ?_, by rw [zv_len]; unfold kl; rw [List.length_map]; omega, fun ys pl hperm hs hpl => ?_⟩
  · unfold dk zv kl
    rw [List.map_map, List.map_map, List.map_map]
    rfl
  have hnd : (zv (kl ps)).Nodup := by
    refine List.pairwise_map.mpr (hB.nd.imp fun {a b} hab => ?_)
    omega
  have hlt : ys.Pairwise (· < ·) := (hs.and (hperm.symm.nodup hnd)).imp fun {a b} hab => by have := hab.1; have := hab.2; omega
  obtain ⟨M, rfl, hM, hMm⟩ := sorted_nat (P := fun y => y ∈ kl ps) hlt (fun k hk => by
    obtain ⟨y, h1, h2⟩ := zv_mem.mp (hperm.mem_iff.mp hk)
    exact ⟨y, h2, h1⟩) fun y hy => hperm.mem_iff.mpr (zv_mem.mpr ⟨y, hy, rfl⟩)
  have e3 := ex_new (o := .lst ((zv M).map V.int)) hpl
  refine ⟨pl, nv M, rfl, .inl ⟨SqL.of (by rw [upd_same, zv_nv]), fun pt hpt => q pt M _ (((e1.trans e2).trans e3).trans (ex_new hpt)) (SqT.of upd_same) ⟨hM, fun y hy => ?_, (hMm n).mpr hB.keyN, fun c hc p hp => ?_, ?_⟩⟩⟩
  · obtain ⟨x, hx, rfl⟩ := List.mem_map.mp ((hMm y).mp hy)
    exact hB.le x hx
  · have := hB.fit hF ((cl_links hL c).mpr hc) p hp
    exact (hMm p).trans (this.trans (hMm _).symm)
  · refine (hMm 0).trans ((hB.zero hF fun c hc => ((hL c).mp hc).2).trans (cl_links hL n))
/-- a walk from n to 0 -/
structure WalkTo (ns : List Nat) (n : Nat) (W : List Nat) : Prop where
  first : W[0]? = some n
  last : W.getLast? = some 0
  le : ∀ y ∈ W, y ≤ n
  nb : ∀ i x y, W[i]? = some x → W[i + 1]? = some y → Nb (fun l => l ∈ ns ∧ 0 < l) y x
abbrev s_walk : Stmt := topS 49
abbrev N_walk : List Str := ["counts", "count", "near", "found"]
theorem sc_walk : FnScope N_walk ["counts", "count"] (fnScope s_walk) := ⟨rfl, rfl, rfl, by decide +kernel, rfl, by decide +kernel, by decide +kernel⟩
def spWalk (K : PySem.W.Frag) : Sp := sp2 fun x y H Q => ∃ a, ∃ (ns : List Nat) (n : Nat), x = .ref a ∧ y = .int n ∧ SqL K H a (nv ns) ∧ ns.length ≤ 60 ∧ n ≤ 60 ∧
  (∀ H', Ex H H' → ¬ Cl (fun y => y ∈ ns) n → Q .non H') ∧ ∀ p W H', Ex H H' → SqT K H' p (nv W) → Cl (fun y => y ∈ ns) n → WalkTo ns n W → Q (.ref p) H'
/-- the way back, from 0 up to the key at i -/
structure Back (ns : List Nat) (n : Nat) (ps : List (Nat × Nat)) (W : List Nat) (i k : Nat) : Prop where
  first : W[0]? = some 0
  last : W.getLast? = some k
  at_ : ∃ p, ps[i]? = some (k, p)
  le : ∀ y ∈ W, y ≤ n
  nb : ∀ j x y, W[j]? = some x → W[j + 1]? = some y → Nb (fun l => l ∈ ns ∧ 0 < l) x y
theorem rev_at {W : List Nat} {i x y : Nat} (hx : W.reverse[i]? = some x) (hy : W.reverse[i + 1]? = some y) : ∃ j, W[j]? = some y ∧ W[j + 1]? = some x := by
  have hb := (List.getElem?_eq_some_iff.mp hy).1
  rw [List.length_reverse] at hb
  rw [List.getElem?_reverse (by omega)] at hx hy
  refine ⟨W.length - 1 - (i + 1), hy, ?_⟩
  rw [show W.length - 1 - (i + 1) + 1 = W.length - 1 - i by omega]
  exact hx
theorem Back.done {ns : List Nat} {n : Nat} {ps : List (Nat × Nat)} {W : List Nat} {i : Nat} (h : Back ns n ps W i n) : WalkTo ns n W.reverse := by
  refine ⟨?_, ?_, fun y hy => h.le y (List.mem_reverse.mp hy), fun i x y hx hy => ?_⟩
  · rw [← List.head?_eq_getElem?, List.head?_reverse]
    exact h.last
  · rw [List.getLast?_reverse, List.head?_eq_getElem?]
    exact h.first
  · obtain ⟨j, h1, h2⟩ := rev_at hx hy
    exact h.nb j y x h1 h2
theorem last_split {W : List Nat} {k : Nat} (h : W.getLast? = some k) : ∃ W', W = W' ++ [k] := by
  rcases List.eq_nil_or_concat W with rfl | ⟨W', x, rfl⟩
  · simp at h
  · rw [List.concat_eq_append] at h ⊢
    rw [List.getLast?_concat] at h
    cases h
    exact ⟨W', rfl⟩
theorem Back.step {ns : List Nat} {n : Nat} {ps : List (Nat × Nat)} {W : List Nat} {i k j p q : Nat} (h : Back ns n ps W i k) (hj : ps[j]? = some (p, q)) (hn : Nb (fun l => l ∈ ns ∧ 0 < l) k p) (hp : p ≤ n) : Back ns n ps (W ++ [p]) j p := by
  obtain ⟨W', rfl⟩ := last_split h.last
  refine ⟨?_, List.getLast?_concat, ⟨q, hj⟩, fun y hy => ?_, fun j' x y hx hy => ?_⟩
  · rw [List.getElem?_append_left (by simp)]
    exact h.first
  · rcases List.mem_append.mp hy with hy | hy
    · exact h.le y hy
    · rw [List.mem_singleton.mp hy]; exact hp
  · have hb := (List.getElem?_eq_some_iff.mp hy).1
    rw [List.length_append, List.length_singleton] at hb
    by_cases hl : j' + 1 < (W' ++ [k]).length
    · rw [List.getElem?_append_left (by omega)] at hx
      rw [List.getElem?_append_left hl] at hy
      exact h.nb j' x y hx hy
    · have e : j' + 1 = (W' ++ [k]).length := by omega
      rw [List.getElem?_append_left (by omega)] at hx
      rw [List.getElem?_append_right (by omega), e, Nat.sub_self] at hy
      rw [List.length_append, List.length_singleton] at e
      have ej : j' = W'.length := by omega
      rw [ej, List.getElem?_append_right (Nat.le_refl _), Nat.sub_self] at hx
      have h1 : k = x := Option.some.inj hx
      have h2 : p = y := Option.some.inj hy
      subst h1 h2
      exact hn
theorem c_walk (d : DefB K mg "walk" s_walk ["counts", "count"]) (Z : Zb mg) (c_links_of : Cal P w K mg base 4 "links_of" (spLinks K) []) (c_nearer : Cal P w K mg base 1 "nearer" (spNearer K) []) : CalD P w K mg base 5 "walk" s_walk ["counts", "count"] (spWalk K) := by
  refine cald_of d sc_walk len2 fun vs0 H Q E h f0 cdv A outer s E' hr => ?_
  obtain ⟨x, y, rfl, a, ns, n, rfl, rfl, ha, hz, hn, q1, q2⟩ := h
  refine ⟨_, (pss_cons (ps_set (i := 2) sc_walk.nd rfl (Or.inl rfl) (pe_c c_nearer hr (by decide) (by rfl) (pa_cons (pe_c c_links_of hr (by decide) (by rfl) (pa_cons (pv 0) pa_nil)) (pa_cons (pv 1) pa_nil))))
      (pss_cons (ps_if (pt_cmp (pc_dnotin (hu_of hr) pe_int (pv 2)))
        (pss_one (ps_ret pe_non))
        pss_nil)
      (pss_cons (ps_set (i := 3) sc_walk.nd rfl (Or.inl rfl) (pe_lst (pa_cons pe_int pa_nil)))
      (pss_cons (ps_while PassesOwn.never (pt_cmpR on_ne (pe_ix (ix_listK K) (pv 3) (pe_un un_neg pe_int) (fun _ _ => rfl)) (pv 1) (nomark _))
        (pss_one (ps_expr (pe_bm PySem.F.plainAttrs_list PySem.F.slot_list_append PySem.F.type_list_append mt_append (pv 3) (pa_cons (pe_dget (hu_of hr) (pv 2) (pe_ix (ix_listK K) (pv 3) (pe_un un_neg pe_int) (fun _ _ => rfl)) (fun _ _ => rfl)) pa_nil)))))
      (pss_one (ps_ret (pe_callTy (call_tupK K) (by rfl) Z.tuple_ (by decide +kernel) (pa_cons (pe_revL (pv 3)) pa_nil)))))))), ?_⟩
  refine ⟨_, rfl, _, rfl, a, ns, rfl, ha, hz, fun p1 L H1 e1 hp1 _ hL => ?_⟩
  refine ⟨_, rfl, _, _, rfl, p1, L, n, rfl, rfl, SqL.of hp1, by omega, fun p2 ps H2 e2 hp2 hB hF => ?_⟩
  have hBl := hB.len
  have e12 := e1.trans e2
  have h0 := (hB.zero hF fun c hc => ((hL c).mp hc).2).trans (cl_links hL n)
  have vd := val_dk ps 0
  refine ⟨_, rfl, p2, _, rfl, DGet.k (k := Sum.inl ((0 : Nat) : Int)) hp2, _, rfl, ?_⟩
  generalize ho : valV (dk ps) (Sum.inl ((0 : Nat) : Int)) = o at vd
  cases o with
  | none =>
    exact q1 H2 e12 fun hc => vd.2 rfl (h0.mpr hc)
  | some v0 =>
    obtain ⟨i0, p0, hi0, _⟩ := vd.1 v0 rfl
    have hc : Cl (fun y => y ∈ ns) n := h0.mp (List.mem_map.mpr ⟨_, List.mem_of_getElem? hi0, rfl⟩)
    refine ⟨by show 1 ≤ sizeLine; decide, fun l hl => ?_⟩
    have hl0 : H l = none := fresh_back e12 hl
    have e3 := e12.trans (ex_new (o := .lst [V.int 0]) hl)
    have hp3 := ex_new (o := .lst [V.int 0]) hl _ _ hp2
    refine ⟨fun μ σ H' => ∃ W k, σ = [some (.ref a), some (.int (n : Nat)), some (.ref p2), some (.ref l)] ∧ Ex H H' ∧ H' p2 = some (.dK (dk ps)) ∧ H' l = some (.lst (nv W)) ∧ Back ns n ps W μ k ∧ W.length + μ ≤ 100, ⟨i0, [0], 0, rfl, e3, hp3, upd_same, ⟨rfl, rfl, ⟨p0, hi0⟩, fun y hy => by rw [List.mem_singleton.mp hy]; exact Nat.zero_le n, fun j x y hx hy => by simp at hy⟩, ?_⟩, ?_⟩
    · have := (List.getElem?_eq_some_iff.mp hi0).1
      show 1 + i0 ≤ 100
      omega
    · rintro μ σ H4 ⟨W, k, rfl, e4, hp4, hl4, hW, hWl⟩
      obtain ⟨W', rfl⟩ := last_split hW.last
      have hlast : SqL K H4 l (nv W' ++ [V.int (k : Nat)]) := by rw [← nv_snoc]; exact SqL.of hl4
      obtain ⟨pk, hpk⟩ := hW.at_
      refine ⟨_, rfl, 1, rfl, l, _, -1, _, rfl, rfl, hlast, atI_last _ _, _, rfl, k, n, rfl, rfl, _, rfl, ?_⟩
      by_cases hkn : k = n
      · subst hkn
        rw [decide_eq_true (rfl : k = k)]
        refine ⟨_, rfl, l, _, rfl, SqL.of hl4, fun pr hpr => ⟨pr, _, rfl, .inl ⟨SqL.of upd_same, fun pt hpt => ?_⟩⟩⟩
        refine q2 pt (W' ++ [k]).reverse _ ((e4.trans (ex_new hpr)).trans (ex_new hpt)) ?_ hc hW.done
        refine SqT.of ?_
        rw [upd_same]
        show some (HO.tup (List.map _ _).reverse) = some (HO.tup (List.map _ _))
        rw [List.map_reverse]
      · rw [decide_eq_false hkn]
        refine ⟨_, fun σ' H' h => h, ?_⟩
        cases μ with
        | zero =>
          rw [hB.first] at hpk
          cases hpk
          exact absurd rfl hkn
        | succ μ =>
          obtain ⟨j, q', hj, hjq, hNb⟩ := hB.par μ k pk hpk
          have hNb' : Nb (fun l => l ∈ ns ∧ 0 < l) k pk := by
            obtain ⟨t, ht, h⟩ := hNb
            exact ⟨t, (hL t).mp ht, h⟩
          have hg : DGet H4 p2 (V.int (k : Nat)) (some (V.int (pk : Nat))) := by
            have vk := val_dk ps k
            have hg0 := DGet.k (k := Sum.inl (k : Int)) hp4
            generalize valV (dk ps) (Sum.inl (k : Int)) = o at vk hg0
            cases o with
            | none => exact absurd (List.mem_map.mpr ⟨_, List.mem_of_getElem? hpk, rfl⟩) (vk.2 rfl)
            | some v =>
              obtain ⟨i', p', hi', rfl⟩ := vk.1 v rfl
              have hnd := hB.nd
              have g1 : (ps.map (·.1))[i']? = some k := by rw [List.getElem?_map, hi']; rfl
              have g2 : (ps.map (·.1))[μ + 1]? = some k := by rw [List.getElem?_map, hpk]; rfl
              have : i' = μ + 1 := (List.getElem?_inj (List.getElem?_eq_some_iff.mp g1).1 hnd).mp (g1.trans g2.symm)
              subst this
              rw [hi'] at hpk
              cases hpk
              exact hg0
          refine ⟨_, rfl, .inl ⟨rfl, _, SqL.of hl4⟩, _, rfl, _, rfl, 1, rfl, l, _, -1, _, rfl, rfl, hlast, atI_last _ _, p2, _, rfl, hg, l, _, _, rfl, rfl, hl4, sz_lt (by rw [nv_len]; omega), ?_⟩
          refine ⟨j, by omega, W' ++ [k] ++ [pk], pk, rfl, ex_mut e4 hl0, by rw [upd_ne (fun z => by rw [z, hl4] at hp4; cases hp4)]; exact hp4, by rw [upd_same, ← nv_snoc (W' ++ [k])], hW.step hjq hNb' (hB.le _ (List.mem_of_getElem? hjq)), ?_⟩
          rw [List.length_append, List.length_singleton]
          omega
abbrev s_checked_mark : Stmt := topS 51
abbrev N_checked_mark : List Str := ["value", "at", "one", "other"]
theorem sc_checked_mark : FnScope N_checked_mark ["value"] (fnScope s_checked_mark) := ⟨rfl, rfl, rfl, by decide +kernel, rfl, by decide +kernel, by decide +kernel⟩
def spCkMark (K : PySem.W.Frag) : Sp := sp1 fun x H Q => ∃ a, ∃ M : List Nat, x = .ref a ∧ SqT K H a (nv M) ∧ M.Pairwise (· < ·) ∧ (∀ y ∈ M, 0 < y) ∧ 0 < M.length ∧ M.length ≤ 1000 ∧ ∀ H', Ex H H' → Q (.ref a) H'
theorem cmZ {a b D : Addr} {xs ys : List V} {g : TG} {tt : TT} {te : TE} {vs : List Nat} {σ : L2.St} {H1 : Hp} {Qd : Hp → Prop} (Pv : Nat → List V → Hp → Prop) (st : Steady D Pv) (hD : H1 D = none) (h0 : Pv 0 [] (upd H1 D (.lst []))) (hx : SqT K H1 a xs) (hy : SqT K H1 b ys) (hl : ys.length ≤ xs.length) (hz : xs.length ≤ 50000)
    (hs : ∀ (i : Nat) (x y : V) (acc : List V) (H : Hp) (T : Addr) (QF : Hp → Prop) (QT : V → Hp → Prop), xs[i]? = some x → ys[i]? = some y → Ex H1 H → H D = some (.lst acc) → Pv i acc H → H T = none →
      (∀ H3, Ex H H3 → Pv (i + 1) acc H3 → QF H3) → (∀ y H4, Ex H H4 → Pv (i + 1) (acc ++ [y]) H4 → QT y H4) →
      g (.ref T) (wipe σ vs) (upd H T (.tup [x, y])) fun σ2 H2 => wipe σ2 vs = wipe σ vs ∧ tt σ2 H2 fun b H3 => if b = true then te σ2 H3 QT else QF H3)
    (hd : ∀ acc H, Ex H1 H → H D = some (.lst acc) → Pv ys.length acc H → Qd H) :
    ∃ W : Nat → Nat → Hp → Prop, (∃ m, W 0 m (upd H1 D (.lst []))) ∧ ∀ i m H, W i m H →
      ((ItzT K a b).stop i H ∧ Qd H) ∨ ((ItzT K a b).go i H ∧ ∃ Nx : Hp → Prop, (∀ H', Nx H' → ∃ m', m' < m ∧ W (i + 1) m' H') ∧ ∀ x H', (ItzT K a b).yld i H x H' →
        g x (wipe σ vs) H' fun σ2 H2 => wipe σ2 vs = wipe σ vs ∧ tt σ2 H2 fun b H3 => if b = true then te σ2 H3 fun y H4 => ∃ acc, H4 D = some (.lst acc) ∧ acc.length < sizeLine ∧ Nx (upd H4 D (.lst (acc ++ [y]))) else Nx H3) := by
  refine ⟨fun i m H => m + i = ys.length ∧ Cmp H1 D Pv i H, ⟨ys.length, rfl, [], ex_new hD, upd_same, Nat.le_refl _, h0⟩, ?_⟩
  rintro i m H ⟨hm, acc, e, hd', hla, p⟩
  cases m with
  | zero =>
    rw [Nat.zero_add] at hm
    subst hm
    exact .inl ⟨⟨xs, ys, ex_t e hx, ex_t e hy, .inr (Nat.le_refl _)⟩, hd acc H e hd' p⟩
  | succ m =>
    have hi : i < ys.length := by omega
    have hi2 : i < xs.length := by omega
    refine .inr ⟨⟨xs, ys, xs[i], ys[i], ex_t e hx, ex_t e hy, List.getElem?_eq_getElem hi2, List.getElem?_eq_getElem hi⟩, Cmp H1 D Pv (i + 1), fun H' c => ⟨m, Nat.lt_succ_self m, by omega, c⟩, ?_⟩
    rintro z H' ⟨T, x, y, rfl, hT, rfl, g1, g2⟩
    refine hs i x y acc H T _ _ (g1 _ (ex_t e hx)) (g2 _ (ex_t e hy)) e hd' p hT (fun H3 e3 p3 => ⟨acc, e.trans e3, e3 _ _ hd', Nat.le_succ_of_le hla, p3⟩) fun y H4 e4 p4 => ⟨acc, e4 _ _ hd', sz_lt (by omega), acc ++ [y], ex_mut (e.trans e4) hD, upd_same, ?_, st _ _ _ _ _ (e4 _ _ hd') p4⟩
    rw [List.length_append]
    exact Nat.succ_le_succ hla
theorem c_checked_mark (d : DefB K mg "checked_mark" s_checked_mark ["value"]) (Z : Zb mg) (c_is_number : Cal P w K mg base 2 "is_number" spNumber []) : Cal P w K mg base 3 "checked_mark" (spCkMark K) [] := by
  refine cal_of d sc_checked_mark len1 fun vs0 H Q E h f0 cdv A outer s0 E' hr => ?_
  obtain ⟨x, rfl, a, M, rfl, ha, hs, hp, hl, hz, q⟩ := h
  refine ⟨_, (pss_cons (ps_if (PW.pt (pw_or (pt_not (pt_val (pe_callB (call_isiK1 K) (by rfl) Z.isinstance (by decide +kernel) (pa_cons (pv 0) (pa_cons (pe_bltn (v := .ty "tuple") rfl Z.tuple_ (by decide +kernel) rfl) pa_nil))))) (pw_or (pt_cmpR on_eq (pe_callB (call_lenK K) (by rfl) Z.len (by decide +kernel) (pa_cons (pv 0) pa_nil)) pe_int (nomark _)) (pw_or1 (pt_not (pt_val (pe_callB (cr_allK K rfl rfl) (by rfl) Z.all (by decide +kernel) (pa_cons (pe_lc (own := [("at", 1)]) rfl sc_checked_mark.nd (pi_tupK K rfl (pv 0)) (blkOk_by (own := [("at", 1)]) (N := N_checked_mark) (sc := fnScope s_checked_mark) (by decide +kernel)) (fun _ _ _ _ _ => (pg_name (i := 1) sc_checked_mark.nd rfl (Or.inl rfl))) (fun _ _ _ _ _ => pts_nil) (fun _ _ _ _ _ => (pe_and (pe_c c_is_number hr (by decide) (by rfl) (pa_cons (pv 1) pa_nil)) (pe_one (pe_cmpR on_gt (pv 1) pe_int (nomark _)))))) pa_nil))))))))
        (pss_one ps_never)
        pss_nil)
      (pss_cons (ps_if (pt_not (pt_val (pe_callB (cr_allK K rfl rfl) (by rfl) Z.all (by decide +kernel) (pa_cons (pe_lc (own := [("one", 2), ("other", 3)]) rfl sc_checked_mark.nd (pi_zipA (by rfl) Z.zip (pa_cons (pv 0) (pa_cons (pe_slice (sl_tupK K) (pv 0) (po_some pe_int) po_none) pa_nil))) (blkOk_by (own := [("one", 2), ("other", 3)]) (N := N_checked_mark) (sc := fnScope s_checked_mark) (by decide +kernel)) (fun _ _ _ _ _ => (pg_tupK K rfl 2 rfl (pgs_cons (pg_name (i := 2) sc_checked_mark.nd rfl (Or.inl rfl)) (pgs_cons (pg_name (i := 3) sc_checked_mark.nd rfl (Or.inl rfl)) pgs_nil)))) (fun _ _ _ _ _ => pts_nil) (fun _ _ _ _ _ => (pe_cmpR on_lt (pv 2) (pv 3) (nomark _)))) pa_nil))))
        (pss_one ps_never)
        pss_nil)
      (pss_one (ps_ret (pv 0))))), ?_⟩
  refine ⟨_, rfl, _, _, _, _, true, rfl, .ty "tuple", tyT ha, kit_ty (by decide +kernel), true, rfl, _, rfl, a, _, rfl, .inr ha, (nv M).length, 0, rfl, rfl, _, rfl, ?_⟩
  rw [decide_eq_false (show ¬ (nv M).length = 0 by rw [nv_len]; omega)]
  refine ⟨_, rfl, a, rfl, ⟨_, ha⟩, fun D hD => cmT (fun i acc _ => acc = List.replicate i (V.bl true)) (steady_val _) hD rfl ha (by rw [nv_len]; omega) ?_ ?_⟩
  · intro i x hi acc H2 QF QT e hd p kF kT
    obtain ⟨n, hn, rfl⟩ := nv_at hi
    have n0 := hp n (List.mem_of_getElem? hn)
    refine ⟨rfl, _, rfl, _, rfl, n, rfl, true, rfl, _, rfl, n, 0, rfl, rfl, ?_⟩
    refine kT _ _ (Ex.refl _) ?_
    show acc ++ [V.bl (decide (0 < n))] = List.replicate (i + 1) (V.bl true)
    rw [show acc = _ from p, List.replicate_succ', decide_eq_true n0]
  · intro acc H2 e hd p
    have p' : acc = List.replicate (nv M).length (V.bl true) := p
    subst p'
    refine ⟨D, List.replicate (nv M).length true, rfl, SqL.of (by rw [hd, List.map_replicate]), _, rfl, ?_⟩
    rw [all_rep]
    have ha2 := ex_t e ha
    refine ⟨_, rfl, _, rfl, 1, rfl, a, _, rfl, ha2, fun hw => ?_, fun _ p6 hp6 => ?_⟩
    · have := hw.1
      rw [show ((1 : Int)) = ((1 : Nat) : Int) from rfl, HT.sIx_nat, nv_len, Nat.min_eq_left (by omega)] at this
      omega
    · have hcut : cutV (nv M) (some 1) none = nv (M.drop 1) := by
        unfold cutV
        rw [show ((1 : Int)) = ((1 : Nat) : Int) from rfl, HT.sIx_nat, HT.sIx_none, nv_len, Nat.min_eq_left (by omega), List.take_of_length_le (by rw [List.length_drop, nv_len]; omega), ← List.map_drop]
      rw [hcut]
      have e6 := ex_new (o := .tup (nv (M.drop 1))) hp6
      have ha6 := ex_t e6 ha2
      refine ⟨a, p6, nv M, nv (M.drop 1), rfl, .inr ⟨ha6, SqT.of upd_same, fun D2 hD2 => cmZ (fun i acc _ => acc = List.replicate i (V.bl true)) (steady_val _) hD2 rfl ha6 (SqT.of upd_same) (by rw [nv_len, nv_len, List.length_drop]; omega) (by rw [nv_len]; omega) ?_ ?_⟩⟩
      · intro i x y acc H4 T QF QT hx hy e4 hd4 p hT kF kT
        obtain ⟨n, hn, rfl⟩ := nv_at hx
        obtain ⟨m, hm, rfl⟩ := nv_at hy
        rw [List.getElem?_drop, Nat.add_comm] at hm
        have hlt := sorted_lt hs hn hm (Nat.lt_succ_self i)
        refine ⟨T, _, rfl, SqT.of upd_same, rfl, _, _, rfl, _, _, rfl, rfl, rfl, _, rfl, _, rfl, n, m, rfl, rfl, kT _ _ (ex_new hT) ?_⟩
        show acc ++ [V.bl (decide (n < m))] = List.replicate (i + 1) (V.bl true)
        rw [show acc = _ from p, List.replicate_succ', decide_eq_true hlt]
      · intro acc H4 e4 hd4 p
        have p' : acc = List.replicate (nv (M.drop 1)).length (V.bl true) := p
        subst p'
        refine ⟨D2, List.replicate (nv (M.drop 1)).length true, rfl, SqL.of (by rw [hd4, List.map_replicate]), _, rfl, ?_⟩
        rw [all_rep]
        exact ⟨_, rfl, q _ ((e.trans e6).trans e4)⟩
abbrev s_mark_for : Stmt := topS 52
abbrev N_mark_for : List Str := ["counts", "count", "found"]
theorem sc_mark_for : FnScope N_mark_for ["counts", "count"] (fnScope s_mark_for) := ⟨rfl, rfl, rfl, by decide +kernel, rfl, by decide +kernel, by decide +kernel⟩
def spMarkFor (K : PySem.W.Frag) : Sp := sp2 fun x y H Q => ∃ a, ∃ (ns : List Nat) (n : Nat), x = .ref a ∧ y = .int n ∧ SqL K H a (nv ns) ∧ ns.length ≤ 60 ∧ n ≤ 60 ∧ ¬ Cl (fun y => y ∈ ns) n ∧ ∀ p M H', Ex H H' → SqT K H' p (nv M) → Hang ns n M → Q (.ref p) H'
theorem c_mark_for (d : DefB K mg "mark_for" s_mark_for ["counts", "count"]) (Z : Zb mg) (c_hanging : Cal P w K mg base 5 "hanging" (spHanging K) []) : Cal P w K mg base 6 "mark_for" (spMarkFor K) [] := by
  refine cal_of d sc_mark_for len2 fun vs0 H Q E h f0 cdv A outer s0 E' hr => ?_
  obtain ⟨x, y, rfl, a, ns, n, rfl, rfl, ha, hz, hn, hc, q⟩ := h
  refine ⟨_, (pss_cons (ps_set (i := 2) sc_mark_for.nd rfl (Or.inl rfl) (pe_c c_hanging hr (by decide) (by rfl) (pa_cons (pv 0) (pa_cons (pv 1) pa_nil))))
      (pss_one (ps_ret (pe_ifExp (pt_cmpR on_eq (pe_ix (ix_tupK K) (pv 2) pe_int (fun _ _ => rfl)) pe_int (nomark _)) pe_non (pv 2))))), ?_⟩
  refine ⟨_, rfl, _, rfl, _, _, rfl, a, ns, n, rfl, rfl, ha, hz, hn, fun p M H1 e1 hp hM => ?_⟩
  obtain ⟨b, hb⟩ : ∃ b, M[0]? = some b := ⟨_, List.getElem?_eq_getElem (List.length_pos_of_mem hM.top)⟩
  refine ⟨_, rfl, p, _, 0, _, rfl, rfl, hp, atI_nat (j := 0) (nv_get hb), b, 0, rfl, rfl, _, rfl, ?_⟩
  have b0 : b ≠ 0 := fun z => hc (hM.zero.mp (z ▸ List.mem_of_getElem? hb))
  rw [decide_eq_false b0]
  exact ⟨_, rfl, q p M H1 e1 hp hM⟩
end
end Bf
/-! The marked machine, rings. -/
namespace Bf
/-- the twin of a position from the least of the mark on -/
def twn (m T p : Nat) : Nat := if p = T then T + 1 else T + 2 + p - m
def trn (M : List Nat) (p : Nat) : Bool := decide (p ∈ M) != decide (p + 1 ∈ M)
def row1 (M : List Nat) (m T p : Nat) : List Nat := [p + 1, if trn M p = true then twn m T (p + 1) else p + 1]
def row2 (M : List Nat) (m T p : Nat) : List Nat := [twn m T (p + 1), if trn M p = true then p + 1 else twn m T (p + 1)]
def mrows (M : List Nat) (m T : Nat) : List (List Nat) := (List.range T).map (row1 M m T) ++ [[T + 1, T + 1], [T + 1, T + 1]] ++ (List.range (T - m)).map fun j => row2 M m T (m + j)
/-- a position or its twin -/
def side (m T : Nat) (b : Bool) (p : Nat) : Nat := if b = true then twn m T p else p
theorem col_ap {rows : List (List Nat)} {s k : Nat} {r : List Nat} (h : rows[s]? = some r) : ap (col rows k) s = r.getD k 0 := by
  unfold ap col
  rw [List.getD_eq_getElem?_getD, List.getElem?_map, h]
  rfl
section
variable {M : List Nat} {m T : Nat} (hm : m ≤ T) (hlow : ∀ y ∈ M, m ≤ y)
include hm
theorem mrows_len : (mrows M m T).length = T + 2 + (T - m) := by
  unfold mrows
  rw [List.length_append, List.length_append, List.length_map, List.length_range, List.length_map, List.length_range] <;> rfl
theorem mrows_1 {p : Nat} (hp : p < T) : (mrows M m T)[p]? = some (row1 M m T p) := by
  unfold mrows
  rw [List.append_assoc, List.getElem?_append_left (by rw [List.length_map, List.length_range]; exact hp), List.getElem?_map, List.getElem?_range hp]
  rfl
theorem mrows_T {p : Nat} (h1 : T ≤ p) (h2 : p ≤ T + 1) : (mrows M m T)[p]? = some [T + 1, T + 1] := by
  unfold mrows
  rw [List.append_assoc, List.getElem?_append_right (by rw [List.length_map, List.length_range]; exact h1), List.length_map, List.length_range]
  have : p = T ∨ p = T + 1 := by omega
  rcases this with rfl | rfl
  · rw [Nat.sub_self]; rfl
  · rw [Nat.add_sub_cancel_left]; rfl
theorem mrows_2 {p : Nat} (h1 : m ≤ p) (h2 : p < T) : (mrows M m T)[twn m T p]? = some (row2 M m T p) := by
  unfold mrows twn
  rw [if_neg (by omega), List.getElem?_append_right (by rw [List.length_append, List.length_map, List.length_range]; show T + 2 ≤ _; omega), List.length_append, List.length_map, List.length_range]
  show ((List.range (T - m)).map fun j => row2 M m T (m + j))[T + 2 + p - m - (T + 2)]? = _
  rw [show T + 2 + p - m - (T + 2) = p - m by omega, List.getElem?_map, List.getElem?_range (by omega)]
  show some (row2 M m T (m + (p - m))) = _
  rw [show m + (p - m) = p by omega]
include hlow
/-- one step of the first command -/
theorem m_f {b : Bool} {p : Nat} (hp : p ≤ T) (hb : b = true → m ≤ p) : ap (col (mrows M m T) 0) (side m T b p) = if p < T then side m T b (p + 1) else T + 1 := by
  by_cases h : p < T
  · rw [if_pos h]
    cases b with
    | false => exact col_ap (mrows_1 hm h)
    | true => exact col_ap (mrows_2 hm (hb rfl) h)
  · rw [if_neg h]
    have e : p = T := by omega
    subst e
    cases b with
    | false => exact col_ap (mrows_T hm (Nat.le_refl _) (Nat.le_succ _))
    | true =>
      show ap (col (mrows M m p) 0) (twn m p p) = p + 1
      unfold twn
      rw [if_pos rfl]
      exact col_ap (mrows_T hm (Nat.le_succ _) (Nat.le_refl _))
theorem m_g {b : Bool} {p : Nat} (hp : p ≤ T) (hb : b = true → m ≤ p) : ap (col (mrows M m T) 1) (side m T b p) = if p < T then side m T (b != trn M p) (p + 1) else T + 1 := by
  by_cases h : p < T
  · rw [if_pos h]
    cases b with
    | false =>
      refine (col_ap (mrows_1 hm h)).trans ?_
      show (if trn M p = true then twn m T (p + 1) else p + 1) = side m T (false != trn M p) (p + 1)
      cases trn M p <;> rfl
    | true =>
      refine (col_ap (mrows_2 hm (hb rfl) h)).trans ?_
      show (if trn M p = true then p + 1 else twn m T (p + 1)) = side m T (true != trn M p) (p + 1)
      cases trn M p <;> rfl
  · rw [if_neg h]
    have e : p = T := by omega
    subst e
    cases b with
    | false => exact col_ap (mrows_T hm (Nat.le_refl _) (Nat.le_succ _))
    | true =>
      show ap (col (mrows M m p) 1) (twn m p p) = p + 1
      unfold twn
      rw [if_pos rfl]
      exact col_ap (mrows_T hm (Nat.le_succ _) (Nat.le_refl _))
theorem trn_low {b : Bool} {p : Nat} (hb : b = true → m ≤ p) : (b != trn M p) = true → m ≤ p + 1 := by
  intro h
  cases b with
  | true => have := hb rfl; omega
  | false =>
    have h' : trn M p = true := by cases ht : trn M p with | true => rfl | false => rw [ht] at h; cases h
    unfold trn at h'
    by_cases h1 : p ∈ M
    · have := hlow p h1; omega
    · by_cases h2 : p + 1 ∈ M
      · exact hlow _ h2
      · rw [decide_eq_false h1, decide_eq_false h2] at h'; cases h'
theorem m_sink (k c : Nat) (hk : k ≤ 1) : it (col (mrows M m T) k) c (T + 1) = T + 1 := by
  have e : ap (col (mrows M m T) k) (T + 1) = T + 1 := by
    rw [col_ap (mrows_T hm (Nat.le_succ _) (Nat.le_refl _))]
    match k, hk with
    | 0, _ => rfl
    | 1, _ => rfl
  induction c with
  | zero => rfl
  | succ c ih =>
    show it _ c (ap _ _) = _
    rw [e, ih]
theorem m_fc : ∀ (c : Nat) {b : Bool} {p : Nat}, p ≤ T → (b = true → m ≤ p) → it (col (mrows M m T) 0) c (side m T b p) = if p + c ≤ T then side m T b (p + c) else T + 1
  | 0, b, p, hp, hb => by rw [Nat.add_zero, if_pos hp]; rfl
  | c + 1, b, p, hp, hb => by
    show it _ c (ap _ _) = _
    rw [m_f hm hlow hp hb]
    by_cases h : p < T
    · rw [if_pos h, m_fc c (by omega) (fun hb' => by have := hb hb'; omega), show p + 1 + c = p + (c + 1) by omega]
    · rw [if_neg h, m_sink hm hlow 0 c (Nat.zero_le _), if_neg (by omega)]
theorem m_gc : ∀ (c : Nat) {b : Bool} {p : Nat}, p ≤ T → (b = true → m ≤ p) → it (col (mrows M m T) 1) c (side m T b p) = if p + c ≤ T then side m T (b != (decide (p ∈ M) != decide (p + c ∈ M))) (p + c) else T + 1
  | 0, b, p, hp, hb => by
    rw [Nat.add_zero, if_pos hp]
    show side m T b p = _
    cases b <;> cases decide (p ∈ M) <;> rfl
  | c + 1, b, p, hp, hb => by
    show it _ c (ap _ _) = _
    rw [m_g hm hlow hp hb]
    by_cases h : p < T
    · rw [if_pos h, m_gc c (by omega) (trn_low hm hlow hb), show p + 1 + c = p + (c + 1) by omega]
      unfold trn
      cases b <;> cases decide (p ∈ M) <;> cases decide (p + 1 ∈ M) <;> cases decide (p + (c + 1) ∈ M) <;> rfl
    · rw [if_neg h, m_sink hm hlow 1 c (Nat.le_refl _), if_neg (by omega)]
/-- each state is a position or a twin -/
theorem m_side {s : Nat} (hs : s < T + 2 + (T - m)) : ∃ b p, s = side m T b p ∧ p ≤ T ∧ (b = true → m ≤ p) := by
  by_cases h1 : s ≤ T
  · exact ⟨false, s, rfl, h1, fun h => by cases h⟩
  · by_cases h2 : s = T + 1
    · refine ⟨true, T, ?_, Nat.le_refl _, fun _ => hm⟩
      show s = twn m T T
      unfold twn
      rw [if_pos rfl, h2]
    · refine ⟨true, s + m - (T + 2), ?_, by omega, fun _ => by omega⟩
      show s = twn m T _
      unfold twn
      rw [if_neg (by omega)]
      omega
theorem mrows_mw (hT : T ≤ 400) : MW 2 (mrows M m T) := by
  have tw_lt : ∀ q, m ≤ q → q ≤ T → twn m T q < T + 2 + (T - m) := fun q h1 h2 => by
    unfold twn
    split <;> omega
  have key : ∀ r ∈ mrows M m T, r.length = 2 ∧ ∀ x ∈ r, x < T + 2 + (T - m) := by
    intro r hr
    unfold mrows at hr
    rcases List.mem_append.mp hr with hr | hr
    · rcases List.mem_append.mp hr with hr | hr
      · obtain ⟨p, hp, rfl⟩ := List.mem_map.mp hr
        have hp' := List.mem_range.mp hp
        refine ⟨rfl, fun x hx => ?_⟩
        have hx' : x = p + 1 ∨ x = (if trn M p = true then twn m T (p + 1) else p + 1) := by
          unfold row1 at hx
          rcases List.mem_cons.mp hx with h | h
          · exact .inl h
          · exact .inr (List.mem_singleton.mp h)
        rcases hx' with rfl | rfl
        · omega
        · by_cases ht : trn M p = true
          · rw [if_pos ht]
            exact tw_lt _ (trn_low hm hlow (b := false) (fun z => by cases z) (by rw [ht]; rfl)) (by omega)
          · rw [if_neg ht]; omega
      · have : r = [T + 1, T + 1] := by
          rcases List.mem_cons.mp hr with h | h
          · exact h
          · exact List.mem_singleton.mp h
        subst this
        refine ⟨rfl, fun x hx => ?_⟩
        have : x = T + 1 := by
          rcases List.mem_cons.mp hx with h | h
          · exact h
          · exact List.mem_singleton.mp h
        omega
    · obtain ⟨j, hj, rfl⟩ := List.mem_map.mp hr
      have hj' := List.mem_range.mp hj
      refine ⟨rfl, fun x hx => ?_⟩
      have h0 := tw_lt (m + j + 1) (by omega) (by omega)
      have hx' : x = twn m T (m + j + 1) ∨ x = (if trn M (m + j) = true then m + j + 1 else twn m T (m + j + 1)) := by
        unfold row2 at hx
        rcases List.mem_cons.mp hx with h | h
        · exact .inl h
        · exact .inr (List.mem_singleton.mp h)
      rcases hx' with rfl | rfl
      · exact h0
      · split <;> omega
  have hl := mrows_len (M := M) hm
  refine ⟨by decide, by decide, by omega, by omega, fun r hr => (key r hr).1, fun r hr x hx => ?_⟩
  rw [hl]
  exact (key r hr).2 x hx
theorem m_agree {c : Nat} (hf : Fit (fun y => y ∈ M) T c) : pw (col (mrows M m T) 0) c = pw (col (mrows M m T) 1) c := by
  refine (pw_eq (by rw [col_len, col_len]) c).mpr fun s hs => ?_
  rw [col_len, mrows_len hm] at hs
  obtain ⟨b, p, rfl, hp, hb⟩ := m_side hm hlow hs
  rw [m_fc hm hlow c hp hb, m_gc hm hlow c hp hb]
  by_cases h : p + c ≤ T
  · rw [if_pos h, if_pos h]
    have e : decide (p ∈ M) = decide (p + c ∈ M) := decide_eq_decide.mpr (hf p h)
    rw [e]
    cases b <;> cases decide (p + c ∈ M) <;> rfl
  · rw [if_neg h, if_neg h]
theorem m_apart (hT : T ∈ M) (h0 : 0 ∉ M) : pw (col (mrows M m T) 0) T ≠ pw (col (mrows M m T) 1) T := by
  intro h
  have := (pw_eq (by rw [col_len, col_len]) T).mp h 0 (by rw [col_len, mrows_len hm]; omega)
  have e1 := m_fc hm hlow T (b := false) (p := 0) (Nat.zero_le _) (fun z => by cases z)
  have e2 := m_gc hm hlow T (b := false) (p := 0) (Nat.zero_le _) (fun z => by cases z)
  rw [Nat.zero_add, if_pos (Nat.le_refl _)] at e1 e2
  rw [decide_eq_false h0, decide_eq_true hT] at e2
  have e3 : side m T false T = side m T (false != (false != true)) T := e1.symm.trans (this.trans e2)
  have e4 : T = twn m T T := e3
  unfold twn at e4
  rw [if_pos rfl] at e4
  omega
end
/-! ### rings -/
def ringR (s : Nat) : List (List Nat) := (List.range s).map fun a => [a, (a + 1) % s]
theorem ring_mw {s : Nat} (h0 : 0 < s) (hs : s ≤ 900) : MW 2 (ringR s) := by
  refine ⟨by decide, by decide, by unfold ringR; rw [List.length_map, List.length_range]; exact h0, by unfold ringR; rw [List.length_map, List.length_range]; omega, fun r hr => ?_, fun r hr x hx => ?_⟩
  · obtain ⟨a, _, rfl⟩ := List.mem_map.mp hr
    rfl
  · obtain ⟨a, ha, rfl⟩ := List.mem_map.mp hr
    have ha' := List.mem_range.mp ha
    unfold ringR
    rw [List.length_map, List.length_range]
    rcases List.mem_cons.mp hx with h | h
    · rw [h]; exact ha'
    · rw [List.mem_singleton.mp h]; exact Nat.mod_lt _ h0
theorem ring_ap {s a : Nat} (ha : a < s) : ap (col (ringR s) 0) a = a ∧ ap (col (ringR s) 1) a = (a + 1) % s := by
  have h : (ringR s)[a]? = some [a, (a + 1) % s] := by
    unfold ringR
    rw [List.getElem?_map, List.getElem?_range ha]
    rfl
  exact ⟨col_ap h, col_ap h⟩
theorem ring_it {s : Nat} (h0 : 0 < s) : ∀ (c : Nat) {a : Nat}, a < s → it (col (ringR s) 0) c a = a ∧ it (col (ringR s) 1) c a = (a + c) % s
  | 0, a, ha => ⟨rfl, by rw [Nat.add_zero, Nat.mod_eq_of_lt ha]; rfl⟩
  | c + 1, a, ha => by
    obtain ⟨e1, e2⟩ := ring_ap ha
    refine ⟨?_, ?_⟩
    · show it _ c (ap _ _) = _
      rw [e1]
      exact (ring_it h0 c ha).1
    · show it _ c (ap _ _) = _
      rw [e2, (ring_it h0 c (Nat.mod_lt _ h0)).2, Nat.mod_add_mod, Nat.add_right_comm, Nat.add_assoc]
theorem ring_agree {s c : Nat} (h0 : 0 < s) : pw (col (ringR s) 0) c = pw (col (ringR s) 1) c ↔ c % s = 0 := by
  rw [pw_eq (by rw [col_len, col_len])]
  have hl : (ringR s).length = s := by unfold ringR; rw [List.length_map, List.length_range]
  rw [col_len, hl]
  constructor
  · intro h
    have := h 0 h0
    obtain ⟨e1, e2⟩ := ring_it h0 c h0
    rw [e1, e2, Nat.zero_add] at this
    exact this.symm
  · intro h a ha
    obtain ⟨e1, e2⟩ := ring_it h0 c ha
    rw [e1, e2, Nat.add_mod, h, Nat.add_zero, Nat.mod_mod, Nat.mod_eq_of_lt ha]
/-! ### two states -/
def apartR : List (List Nat) := [[0, 1], [0, 1]]
theorem apart_mw : MW 2 apartR := ⟨by decide, by decide, by decide, by decide, by decide, by decide⟩
theorem apart_it : ∀ c s, s < 2 → it (col apartR 0) (c + 1) s = 0 ∧ it (col apartR 1) (c + 1) s = 1
  | 0, s, hs => by
    match s, hs with
    | 0, _ => exact ⟨rfl, rfl⟩
    | 1, _ => exact ⟨rfl, rfl⟩
  | c + 1, s, hs => by
    rw [it_succ _ (c + 1), it_succ _ (c + 1), (apart_it c s hs).1, (apart_it c s hs).2]
    exact ⟨rfl, rfl⟩
theorem apart_apart {c : Nat} (hc : 0 < c) : pw (col apartR 0) c ≠ pw (col apartR 1) c := by
  intro h
  have := (pw_eq (f := col apartR 0) (g := col apartR 1) rfl c).mp h 0 (by decide)
  obtain ⟨d, rfl⟩ : ∃ d, c = d + 1 := ⟨c - 1, by omega⟩
  obtain ⟨e1, e2⟩ := apart_it d 0 (by decide)
  rw [e1, e2] at this
  cases this
end Bf
namespace Bf
open PySem PySem.Spec PyProof.Rows L2 RZ PpSet
open C8 (Cal Met Mak Def cal0 met0 mak0 pe_c pe_mk pe_mt pe_mt0 fnScope fnBody InsC call_isC tCut pss_cut)
open Evl (Ex ex_l ex_t ex_rd fresh_back sz_of sz_lt)
section
variable {P : Program} {w : World} {K : PySem.W.Frag} {mg : Str → Option Value} {base : Heap}
theorem inV_nv (k : Nat) : ∀ M : List Nat, inV (.int (k : Nat)) (nv M) = decide (k ∈ M)
  | [] => rfl
  | x :: M => by
    show (((x : Int) == (k : Int)) || inV (.int (k : Nat)) (nv M)) = _
    rw [inV_nv k M]
    by_cases h : k = x
    · subst h
      simp
    · have h' : ¬ ((x : Int) = (k : Int)) := by omega
      by_cases h2 : k ∈ M
      · simp [h2]
      · simp [h, h2, h']
theorem flat_nv : ∀ M : List Nat, (nv M).all flatV = true
  | [] => rfl
  | x :: M => flat_nv M
theorem ne_bl (a b : Bool) : (!decide (V.bl a = V.bl b)) = (a != b) := by cases a <;> cases b <;> rfl
theorem mk_ex {H : Hp} {x dx : Addr} {o o' : HO} (hx : H x = none) (hd : H dx = none) : Ex H (upd (upd H dx o) x o') := (ex_new hd).mut hx
theorem Tups.append {H : Hp} {as bs : List V} {xs ys : List (List Nat)} (h : Tups K H as xs) (h' : Tups K H bs ys) : Tups K H (as ++ bs) (xs ++ ys) := by
  refine ⟨by rw [List.length_append, List.length_append, h.1, h'.1], fun i z hi => ?_⟩
  by_cases hl : i < xs.length
  · rw [List.getElem?_append_left hl] at hi
    rw [List.getElem?_append_left (by rw [h.1]; exact hl)]
    exact h.2 i z hi
  · rw [List.getElem?_append_right (by omega)] at hi
    rw [List.getElem?_append_right (by rw [h.1]; omega), h.1]
    exact h'.2 _ z hi
/-- a machine of two commands is given back -/
def RetM (K : PySem.W.Frag) (CM : Addr) (rows : List (List Nat)) (H : Hp) (Q : VK) : Prop := ∀ p H', Ex H H' → Mach K CM H' p 2 rows → Q (.ref p) H'
theorem mk_mach {CM : Addr} {H H1 : Hp} {Q : VK} {rows : List (List Nat)} {l : Addr} {vs : List V} (e : Ex H H1) (hl : SqL K H1 l vs) (hs : Seqs K H1 vs rows) (hw : MW 2 rows) (q : RetM K CM rows H Q) {x dx : Addr} (nx : H1 x = none) (nd : H1 dx = none) :
    spMachine K CM [.ref x, .int 2, .ref l] (upd (upd H1 dx (.own x)) x (.ins CM dx [])) (fun v H2 => v = .non ∧ Q (.ref x) H2) C8.E0 :=
  ⟨_, _, _, rfl, x, l, dx, 2, vs, rows, rfl, rfl, rfl, upd_same, ex_l (mk_ex nx nd) hl, hs.ex (mk_ex nx nd), hw, fun H2 e2 hm => ⟨rfl, q x H2 (e.trans (exB_ex nx ((exB_of (mk_ex nx nd)).trans e2))) hm⟩⟩
abbrev s_apart : Stmt := topS 56
abbrev N_apart : List Str := []
theorem sc_apart : FnScope N_apart [] (fnScope s_apart) := ⟨rfl, rfl, rfl, by decide +kernel, rfl, by decide +kernel, by decide +kernel⟩
def spApart (K : PySem.W.Frag) (CM : Addr) : Sp := sp0 fun H Q => RetM K CM apartR H Q
theorem c_apart {CM : Addr} (d : DefB K mg "apart" s_apart []) (T : Mx K mg CM) (Z : Zb mg) (c_Machine_init : Mak P w K mg base 4 "Machine" CM (spMachine K CM) []) : Cal P w K mg base 6 "apart" (spApart K CM) [] := by
  refine cal_of d sc_apart len0 fun vs0 H Q E h f0 cdv A outer s0 E' hr => ?_
  obtain ⟨rfl, q⟩ := h
  refine ⟨_, (pss_one (ps_ret (pe_mk c_Machine_init hr (by decide) (by rfl) (pa_cons pe_int (pa_cons (pe_lst (pa_cons (pe_tup (pa_cons pe_int (pa_cons pe_int pa_nil))) (pa_cons (pe_tup (pa_cons pe_int (pa_cons pe_int pa_nil))) pa_nil))) pa_nil))))), ?_⟩
  refine ⟨by show 2 ≤ sizeLine; decide, fun p1 hp1 => ⟨by show 2 ≤ sizeLine; decide, fun p2 hp2 => ⟨by show 2 ≤ sizeLine; decide, fun l hl x dx nx nd _ => ?_⟩⟩⟩
  have e1 := ex_new (o := .tup [.int 0, .int 1]) hp1
  have e2 := ex_new (o := .tup [.int 0, .int 1]) hp2
  have e3 := ex_new (o := .lst [.ref p1, .ref p2]) hl
  refine mk_mach ((e1.trans e2).trans e3) (SqL.of upd_same) (Tups.seqs ?_) apart_mw q nx nd
  refine (Tups.snoc (Tups.snoc Tups.nil (xs := [0, 1]) ?_) (xs := [0, 1]) ?_ : Tups K _ ([] ++ [V.ref p1] ++ [V.ref p2]) ([] ++ [[0, 1]] ++ [[0, 1]]))
  · exact SqT.of (e3 _ _ (e2 _ _ upd_same))
  · exact SqT.of (e3 _ _ upd_same)
abbrev s_ring_of : Stmt := topS 57
abbrev N_ring_of : List Str := ["size", "at"]
theorem sc_ring_of : FnScope N_ring_of ["size"] (fnScope s_ring_of) := ⟨rfl, rfl, rfl, by decide +kernel, rfl, by decide +kernel, by decide +kernel⟩
def spRing (K : PySem.W.Frag) (CM : Addr) : Sp := sp1 fun x H Q => ∃ s : Nat, x = .int s ∧ 0 < s ∧ s ≤ 900 ∧ RetM K CM (ringR s) H Q
theorem c_ring_of {CM : Addr} (d : DefB K mg "ring_of" s_ring_of ["size"]) (T : Mx K mg CM) (Z : Zb mg) (c_Machine_init : Mak P w K mg base 4 "Machine" CM (spMachine K CM) []) : Cal P w K mg base 6 "ring_of" (spRing K CM) [] := by
  refine cal_of d sc_ring_of len1 fun vs0 H Q E h f0 cdv A outer s0 E' hr => ?_
  obtain ⟨x, rfl, s, rfl, hs0, hs, q⟩ := h
  refine ⟨_, (pss_one (ps_ret (pe_mk c_Machine_init hr (by decide) (by rfl) (pa_cons pe_int (pa_cons (pe_lc (own := [("at", 1)]) rfl sc_ring_of.nd (pi_range1 (by rfl) Z.range (pa_cons (pv 0) pa_nil)) (blkOk_by (own := [("at", 1)]) (N := N_ring_of) (sc := fnScope s_ring_of) (by decide +kernel)) (fun _ _ _ _ _ => (pg_name (i := 1) sc_ring_of.nd rfl (Or.inl rfl))) (fun _ _ _ _ _ => pts_nil) (fun _ _ _ _ _ => (pe_tup (pa_cons (pv 1) (pa_cons (pe_op on_mod (pe_op on_add (pv 1) pe_int) (pv 0)) pa_nil))))) pa_nil))))), ?_⟩
  refine ⟨_, rfl, s, rfl, by omega, by omega, fun D hD => cmR (n := s) (fun i acc H' => Tups K H' acc ((ringR s).take i)) (fun i acc zs zs' H' hd p => p.upd hd) hD Tups.nil (by omega) ?_ ?_⟩
  · intro i hi acc H2 QF QT e hd p kF kT
    refine ⟨rfl, _, rfl, _, rfl, i, 1, rfl, rfl, _, rfl, i + 1, s, rfl, rfl, by omega, by show 2 ≤ sizeLine; decide, fun t ht => kT _ _ (ex_new ht) ?_⟩
    have e2 : (ringR s)[i]? = some [i, (i + 1) % s] := by
      unfold ringR
      rw [List.getElem?_map, List.getElem?_range hi]
      rfl
    show Tups K _ _ ((ringR s).take (i + 1))
    rw [tk e2]
    exact (Tups.ex p (ex_new ht)).snoc (SqT.of upd_same)
  · intro acc H2 e hd p
    have p' : Tups K H2 acc ((ringR s).take s) := p
    rw [List.take_of_length_le (by unfold ringR; rw [List.length_map, List.length_range]; exact Nat.le_refl s)] at p'
    intro x dx nx nd _
    exact mk_mach e (SqL.of hd) p'.seqs (ring_mw hs0 hs) q nx nd
abbrev s_least_power : Stmt := topS 55
abbrev N_least_power : List Str := ["links", "count", "size", "link"]
theorem sc_least_power : FnScope N_least_power ["links", "count"] (fnScope s_least_power) := ⟨rfl, rfl, rfl, by decide +kernel, rfl, by decide +kernel, by decide +kernel⟩
def spLeast (K : PySem.W.Frag) : Sp := sp2 fun x y H Q => ∃ a, ∃ (L : List Nat) (n : Nat), x = .ref a ∧ y = .int n ∧ SqL K H a (nv L) ∧ L.length ≤ 1000 ∧ n ≤ 60 ∧ ∀ (s : Nat) H', Ex H H' → (s = 0 ∨ (0 < s ∧ s ≤ 900 ∧ 0 < n % s ∧ ∀ l ∈ L, l % s = 0)) → Q (.int s) H'
theorem all_id (bs : List Bool) : bs.all id = true ↔ ∀ b ∈ bs, b = true := List.all_eq_true
theorem c_least_power (d : DefB K mg "least_power" s_least_power ["links", "count"]) (Z : Zb mg) (c_primes_of : Cal P w K mg base 1 "primes_of" (spPrimes K) []) : Cal P w K mg base 2 "least_power" (spLeast K) [] := by
  refine cal_of d sc_least_power len2 fun vs0 H Q E h f0 cdv A outer s0 E' hr => ?_
  obtain ⟨x, y, rfl, a, L, n, rfl, rfl, ha, hl, hn, q⟩ := h
  refine ⟨_, (pss_cons (ps_for PassesOwn.never rfl (pi_range2 (by rfl) Z.range (pa_cons pe_int (pa_cons (pe_op on_add (pv 1) pe_int) pa_nil))) (pg_name (i := 2) sc_least_power.nd rfl (Or.inr rfl))
        (pss_one (ps_if (PW.pt (pw_and (pt_cmpR on_gt (pe_op on_mod (pv 1) (pv 2)) pe_int (nomark _)) (pw_and (pt_cmpR on_eq (pe_callB (call_lenK K) (by rfl) Z.len (by decide +kernel) (pa_cons (pe_c c_primes_of hr (by decide) (by rfl) (pa_cons (pv 2) pa_nil)) pa_nil)) pe_int (nomark _)) (pw_and1 (pt_val (pe_callB (cr_allK K rfl rfl) (by rfl) Z.all (by decide +kernel) (pa_cons (pe_lc (own := [("link", 3)]) rfl sc_least_power.nd (pi_listK K rfl (pv 0)) (blkOk_by (own := [("link", 3)]) (N := N_least_power) (sc := fnScope s_least_power) (by decide +kernel)) (fun _ _ _ _ _ => (pg_name (i := 3) sc_least_power.nd rfl (Or.inl rfl))) (fun _ _ _ _ _ => pts_nil) (fun _ _ _ _ _ => (pe_cmpR on_eq (pe_op on_mod (pv 3) (pv 2)) pe_int (nomark _)))) pa_nil)))))))
          (pss_one (ps_ret (pv 2)))
          pss_nil)))
      (pss_one (ps_ret pe_int))), ?_⟩
  refine ⟨_, rfl, n, 3, rfl, rfl, 2, ((n + 3 : Nat) : Int), rfl, ⟨by decide, by decide, by omega, by omega⟩, ?_⟩
  rw [show ((n + 3 : Nat) : Int) - 2 = ((n + 1 : Nat) : Int) by omega, Int.toNat_natCast]
  refine for_range (lo := 2) (n := n + 1) (fun i σ H' => ∃ u, σ = [some (.ref a), some (.int (n : Nat)), u, none] ∧ Ex H H') ⟨none, rfl, Ex.refl _⟩ ?_ ?_
  · rintro i σ H1 hi ⟨u, rfl, e1⟩
    have ei : (2 : Int) + (i : Int) = ((i + 2 : Nat) : Int) := by omega
    rw [ei]
    refine ⟨_, rfl, _, rfl, n, i + 2, rfl, rfl, by omega, n % (i + 2), 0, rfl, rfl, _, rfl, ?_⟩
    by_cases h0 : 0 < n % (i + 2)
    · rw [decide_eq_true h0]
      refine ⟨_, rfl, _, rfl, i + 2, rfl, by omega, by omega, fun p ps H2 e2 hp _ => ?_⟩
      have e12 := e1.trans e2
      refine ⟨p, _, rfl, .inl (SqL.of hp), (nv ps).length, 1, rfl, rfl, _, rfl, ?_⟩
      by_cases h1 : (nv ps).length = 1
      · rw [decide_eq_true h1]
        have ha2 := ex_l e12 ha
        refine ⟨_, rfl, a, rfl, ⟨_, ha2⟩, fun D hD => cmL (fun j acc _ => acc = ((L.take j).map fun l => decide (l % (i + 2) = 0)).map V.bl) (steady_val _) hD rfl ha2 (by rw [nv_len]; omega) ?_ ?_⟩
        · intro j x hj acc H3 QF QT e hd p3 kF kT
          obtain ⟨t, ht, rfl⟩ := nv_at hj
          refine ⟨rfl, _, rfl, _, rfl, t, i + 2, rfl, rfl, by omega, t % (i + 2), 0, rfl, rfl, kT _ _ (Ex.refl _) ?_⟩
          show acc ++ [V.bl (decide (t % (i + 2) = 0))] = ((L.take (j + 1)).map fun l => decide (l % (i + 2) = 0)).map V.bl
          rw [show acc = _ from p3, tk ht, List.map_append, List.map_append]
          rfl
        · intro acc H3 e hd p3
          have p' : acc = ((L.take (nv L).length).map fun l => decide (l % (i + 2) = 0)).map V.bl := p3
          rw [nv_len, List.take_length] at p'
          subst p'
          refine ⟨D, L.map fun l => decide (l % (i + 2) = 0), rfl, SqL.of hd, _, rfl, ?_⟩
          by_cases hall : (L.map fun l => decide (l % (i + 2) = 0)).all id = true
          · rw [hall]
            refine ⟨_, rfl, q (i + 2) H3 (e12.trans e) (.inr ⟨by omega, by omega, h0, fun l hl => ?_⟩)⟩
            exact of_decide_eq_true ((all_id _).mp hall _ (List.mem_map.mpr ⟨l, hl, rfl⟩))
          · rw [Bool.eq_false_iff.mpr hall]
            exact ⟨_, rfl, e12.trans e⟩
      · rw [decide_eq_false h1]
        exact ⟨_, rfl, e12⟩
    · rw [decide_eq_false h0]
      exact ⟨_, rfl, e1⟩
  · rintro σ H1 ⟨u, rfl, e1⟩
    exact q 0 H1 e1 (.inl rfl)
abbrev s_marked_machine : Stmt := topS 54
abbrev N_marked_machine : List Str := ["mark", "least", "top", "rows", "twins", "at", "plain", "twin", "turned", "last"]
theorem sc_marked_machine : FnScope N_marked_machine ["mark"] (fnScope s_marked_machine) := ⟨rfl, rfl, rfl, by decide +kernel, rfl, by decide +kernel, by decide +kernel⟩
theorem r_twn {σ : L2.St} {H : Hp} {p m T : Nat} {R : VK} (h5 : σ[5]? = some (some (.int (p : Nat)))) (h1 : σ[1]? = some (some (.int (m : Nat)))) (h2 : σ[2]? = some (some (.int (T : Nat)))) (hm : m ≤ T) (q : R (.int (twn m T (p + 1) : Nat)) H) :
    tIf (tTest (tOp (rN fun n m => .bl (decide (n = m))) (tOp (rN fun n m => .int ((n + m : Nat) : Int)) (tVar 5) (tC (.int 1))) (tVar 2)))
      (tOp (rN fun n m => .int ((n + m : Nat) : Int)) (tVar 2) (tC (.int 1)))
      (tOp (rNc (fun n m => m ≤ n) fun n m => .int ((n - m : Nat) : Int)) (tOp (rN fun n m => .int ((n + m : Nat) : Int)) (tOp (rN fun n m => .int ((n + m : Nat) : Int)) (tVar 2) (tC (.int 3))) (tVar 5)) (tVar 1)) σ H R := by
  refine ⟨_, h5, p, 1, rfl, rfl, _, h2, p + 1, T, rfl, rfl, _, rfl, ?_⟩
  unfold twn at q
  by_cases h : p + 1 = T
  · rw [if_pos h] at q
    rw [decide_eq_true h]
    exact ⟨_, h2, T, 1, rfl, rfl, q⟩
  · rw [if_neg h] at q
    rw [decide_eq_false h]
    refine ⟨_, h2, T, 3, rfl, rfl, _, h5, T + 3, p, rfl, rfl, _, h1, T + 3 + p, m, rfl, rfl, by omega, ?_⟩
    show R (.int (T + 3 + p - m : Nat)) H
    rw [show T + 3 + p - m = T + 2 + (p + 1) - m by omega]
    exact q
theorem r_bool {σ : L2.St} {H : Hp} {b : Bool} {i j : Nat} {u v : Nat} {R : VK} (h8 : σ[8]? = some (some (.bl b))) (hi : σ[i]? = some (some (.int (u : Nat)))) (hj : σ[j]? = some (some (.int (v : Nat)))) (q : R (.int ((if b = true then u else v : Nat) : Nat)) H) :
    tIf (tB (tVar 8)) (tVar i) (tVar j) σ H R := by
  refine ⟨_, h8, b, rfl, ?_⟩
  cases b with
  | true => exact ⟨_, hi, q⟩
  | false => exact ⟨_, hj, q⟩
def spMarked (K : PySem.W.Frag) (CM : Addr) : Sp := sp1 fun x H Q => ∃ a, ∃ (M : List Nat) (m T : Nat), x = .ref a ∧ SqT K H a (nv M) ∧ M.Pairwise (· < ·) ∧ (∀ y ∈ M, 0 < y) ∧ M[0]? = some m ∧ M.getLast? = some T ∧ M.length ≤ 1000 ∧ T ≤ 400 ∧ RetM K CM (mrows M m T) H Q
theorem c_marked_machine {CM : Addr} (d : DefB K mg "marked_machine" s_marked_machine ["mark"]) (T : Mx K mg CM) (Z : Zb mg) (c_Machine_init : Mak P w K mg base 4 "Machine" CM (spMachine K CM) []) (c_checked_mark : Cal P w K mg base 3 "checked_mark" (spCkMark K) []) :
    Cal P w K mg base 6 "marked_machine" (spMarked K CM) [] := by
  refine cal_of d sc_marked_machine len1 fun vs0 H Q E h f0 cdv A outer s0 E' hr => ?_
  obtain ⟨x, rfl, a, M, m, tp, rfl, ha, hs, hpos, hm0, hlast, hMl, htz, q⟩ := h
  obtain ⟨hmM, hlow⟩ := sorted_first hs hm0
  have htM : tp ∈ M := List.mem_of_getLast? hlast
  have hmt := hlow tp htM
  refine ⟨_, (pss_cons (ps_par (i := 1) (j := 2) (by rfl) sc_marked_machine.nd rfl rfl (by decide) rfl rfl (pa_cons (pe_ix (ix_tupK K) (pe_c c_checked_mark hr (by decide) (by rfl) (pa_cons (pv 0) pa_nil)) pe_int (fun _ _ => rfl)) (pa_cons (pe_ix (ix_tupK K) (pv 0) (pe_un un_neg pe_int) (fun _ _ => rfl)) pa_nil)) (by rfl))
      (pss_cons (ps_par (i := 3) (j := 4) (by rfl) sc_marked_machine.nd rfl rfl (by decide) rfl rfl (pa_cons (pe_lst pa_nil) (pa_cons (pe_lst pa_nil) pa_nil)) (by rfl))
      (pss_cons (ps_for PassesOwn.never rfl (pi_range1 (by rfl) Z.range (pa_cons (pv 2) pa_nil)) (pg_name (i := 5) sc_marked_machine.nd rfl (Or.inl rfl))
        (pss_cons (ps_par (i := 6) (j := 7) (by rfl) sc_marked_machine.nd rfl rfl (by decide) rfl rfl (pa_cons (pe_op on_add (pv 5) pe_int) (pa_cons (pe_ifExp (pt_cmpR on_eq (pe_op on_add (pv 5) pe_int) (pv 2) (nomark _)) (pe_op on_add (pv 2) pe_int) (pe_op on_sub (pe_op on_add (pe_op on_add (pv 2) pe_int) (pv 5)) (pv 1))) pa_nil)) (by rfl))
        (pss_cons (ps_set (i := 8) sc_marked_machine.nd rfl (Or.inl rfl) (pe_cmpR op_ne (pe_cmpR (op_inK K) (pv 5) (pv 0) (by rfl)) (pe_cmpR (op_inK K) (pe_op on_add (pv 5) pe_int) (pv 0) (by rfl)) (nomark _)))
        (pss_cons (ps_expr (pe_bm PySem.F.plainAttrs_list PySem.F.slot_list_append PySem.F.type_list_append mt_append (pv 3) (pa_cons (pe_tup (pa_cons (pv 6) (pa_cons (pe_ifExp (pt_val (pv 8)) (pv 7) (pv 6)) pa_nil))) pa_nil)))
        (pss_one (ps_if (pt_cmpR on_ge (pv 5) (pv 1) (nomark _))
          (pss_one (ps_expr (pe_bm PySem.F.plainAttrs_list PySem.F.slot_list_append PySem.F.type_list_append mt_append (pv 4) (pa_cons (pe_tup (pa_cons (pv 7) (pa_cons (pe_ifExp (pt_val (pv 8)) (pv 6) (pv 7)) pa_nil))) pa_nil))))
          pss_nil))))))
      (pss_cons (ps_set (i := 9) sc_marked_machine.nd rfl (Or.inl rfl) (pe_tup (pa_cons (pe_op on_add (pv 2) pe_int) (pa_cons (pe_op on_add (pv 2) pe_int) pa_nil))))
      (pss_one (ps_ret (pe_mk c_Machine_init hr (by decide) (by rfl) (pa_cons pe_int (pa_cons (pe_lst (StX.pa_star (pv 3) (pa_cons (pv 9) (pa_cons (pv 9) (StX.pa_star (pv 4) pa_nil))))) pa_nil))))))))), ?_⟩
  refine ⟨_, rfl, _, rfl, a, M, rfl, ha, hs, hpos, List.length_pos_of_mem hmM, hMl, fun H1 e1 => ?_⟩
  have ha1 := ex_t e1 ha
  obtain ⟨M', hM'⟩ := last_split hlast
  have halast : SqT K H1 a (nv M' ++ [V.int (tp : Nat)]) := by rw [← nv_snoc, ← hM']; exact ha1
  refine ⟨a, _, 0, _, rfl, rfl, ha1, atI_nat (j := 0) (nv_get hm0), _, rfl, 1, rfl, a, _, -1, _, rfl, rfl, halast, atI_last _ _, ?_⟩
  refine ⟨_, _, rfl, ?_⟩
  refine ⟨Nat.zero_le _, fun pr hpr => ⟨Nat.zero_le _, fun pt hpt => ⟨_, _, rfl, ?_⟩⟩⟩
  have e2 := (e1.trans (ex_new (o := .lst []) hpr)).trans (ex_new (o := .lst []) hpt)
  have nrt : pr ≠ pt := fun z => by rw [← z, upd_same] at hpt; cases hpt
  have hr2 : (upd (upd H1 pr (.lst [])) pt (.lst [])) pr = some (.lst []) := by rw [upd_ne nrt, upd_same]
  have ht2 : (upd (upd H1 pr (.lst [])) pt (.lst [])) pt = some (.lst []) := upd_same
  have hprH : H pr = none := fresh_back e1 hpr
  have hptH : H pt = none := fresh_back (e1.trans (ex_new hpr)) hpt
  generalize hHH : (upd (upd H1 pr (.lst [])) pt (.lst [])) = H2 at e2 hr2 ht2 ⊢
  refine ⟨_, rfl, tp, rfl, by omega, by omega, for_rng (n := tp) (fun i σ H' => ∃ u5 u6 u7 u8 v1 v2, σ = [some (.ref a), some (.int (m : Nat)), some (.int (tp : Nat)), some (.ref pr), some (.ref pt), u5, u6, u7, u8, none] ∧ Ex H H' ∧ H' pr = some (.lst v1) ∧ H' pt = some (.lst v2) ∧
    Tups K H' v1 ((List.range i).map (row1 M m tp)) ∧ Tups K H' v2 ((List.range (i - m)).map fun j => row2 M m tp (m + j))) ⟨none, none, none, none, [], [], rfl, e2, hr2, ht2, Tups.nil, by rw [Nat.zero_sub]; exact Tups.nil⟩ ?_ ?_⟩
  · rintro i σ H3 hi ⟨u5, u6, u7, u8, v1, v2, rfl, e3, hr3, ht3, hv1, hv2⟩
    have l1 : v1.length = i := by rw [hv1.1, List.length_map, List.length_range]
    have l2 : v2.length = i - m := by rw [hv2.1, List.length_map, List.length_range]
    have ha3 := ex_t e3 ha
    refine ⟨_, rfl, i, 1, rfl, rfl, r_twn rfl rfl rfl hmt ⟨_, _, rfl, ?_⟩⟩
    refine ⟨_, rfl, _, rfl, a, _, rfl, .inr ha3, rfl, flat_nv M, _, rfl, i, 1, rfl, rfl, _, rfl, a, _, rfl, .inr ha3, rfl, flat_nv M, rfl, ?_⟩
    have etr : V.bl (!decide (V.bl (if false = true then !inV (.int (i : Nat)) (nv M) else inV (.int (i : Nat)) (nv M)) = V.bl (if false = true then !inV (.int ((i + 1 : Nat) : Int)) (nv M) else inV (.int ((i + 1 : Nat) : Int)) (nv M)))) = V.bl (trn M i) := by
      rw [ne_bl, if_neg Bool.false_ne_true, if_neg Bool.false_ne_true, inV_nv, inV_nv]
      rfl
    rw [etr]
    refine ⟨_, rfl, .inl ⟨rfl, _, SqL.of hr3⟩, _, rfl, r_bool rfl rfl rfl ⟨by show 2 ≤ sizeLine; decide, fun p1 hp1 => ?_⟩⟩
    have e4 := e3.trans (ex_new (o := .tup [.int (i + 1 : Nat), .int ((if trn M i = true then twn m tp (i + 1) else i + 1 : Nat) : Nat)]) hp1)
    have hr4 := ex_new (o := .tup [.int (i + 1 : Nat), .int ((if trn M i = true then twn m tp (i + 1) else i + 1 : Nat) : Nat)]) hp1 _ _ hr3
    have ht4 := ex_new (o := .tup [.int (i + 1 : Nat), .int ((if trn M i = true then twn m tp (i + 1) else i + 1 : Nat) : Nat)]) hp1 _ _ ht3
    have hv14 := hv1.ex (ex_new (o := .tup [.int (i + 1 : Nat), .int ((if trn M i = true then twn m tp (i + 1) else i + 1 : Nat) : Nat)]) hp1)
    have hv24 := hv2.ex (ex_new (o := .tup [.int (i + 1 : Nat), .int ((if trn M i = true then twn m tp (i + 1) else i + 1 : Nat) : Nat)]) hp1)
    have hp4 : SqT K (upd H3 p1 (.tup [.int (i + 1 : Nat), .int ((if trn M i = true then twn m tp (i + 1) else i + 1 : Nat) : Nat)])) p1 (nv (row1 M m tp i)) := SqT.of upd_same
    generalize (upd H3 p1 (.tup [.int (i + 1 : Nat), .int ((if trn M i = true then twn m tp (i + 1) else i + 1 : Nat) : Nat)])) = H4 at e4 hr4 ht4 hv14 hv24 hp4 ⊢
    refine ⟨pr, v1, .ref p1, rfl, rfl, hr4, sz_lt (by omega), ?_⟩
    have e5 := ex_mut (o := .lst (v1 ++ [.ref p1])) e4 hprH
    have hr5 : (upd H4 pr (.lst (v1 ++ [.ref p1]))) pr = some (.lst (v1 ++ [.ref p1])) := upd_same
    have ht5 : (upd H4 pr (.lst (v1 ++ [.ref p1]))) pt = some (.lst v2) := by rw [upd_ne (Ne.symm nrt)]; exact ht4
    have hv15 : Tups K (upd H4 pr (.lst (v1 ++ [.ref p1]))) (v1 ++ [.ref p1]) ((List.range (i + 1)).map (row1 M m tp)) := by
      rw [List.range_succ, List.map_append]
      exact (hv14.snoc hp4).upd hr4
    have hv25 := hv24.upd (o := .lst (v1 ++ [.ref p1])) hr4
    generalize (upd H4 pr (.lst (v1 ++ [.ref p1]))) = H5 at e5 hr5 ht5 hv15 hv25 ⊢
    refine ⟨_, rfl, _, rfl, i, m, rfl, rfl, _, rfl, ?_⟩
    by_cases hc : m ≤ i
    · rw [decide_eq_true hc]
      refine ⟨_, rfl, .inl ⟨rfl, _, SqL.of ht5⟩, _, rfl, r_bool rfl rfl rfl ⟨by show 2 ≤ sizeLine; decide, fun p2 hp2 => ?_⟩⟩
      have x6 := ex_new (o := .tup [.int (twn m tp (i + 1) : Nat), .int ((if trn M i = true then i + 1 else twn m tp (i + 1) : Nat) : Nat)]) hp2
      have hp6 : SqT K (upd H5 p2 (.tup [.int (twn m tp (i + 1) : Nat), .int ((if trn M i = true then i + 1 else twn m tp (i + 1) : Nat) : Nat)])) p2 (nv (row2 M m tp i)) := SqT.of upd_same
      generalize (upd H5 p2 (.tup [.int (twn m tp (i + 1) : Nat), .int ((if trn M i = true then i + 1 else twn m tp (i + 1) : Nat) : Nat)])) = H6 at x6 hp6 ⊢
      refine ⟨pt, v2, .ref p2, rfl, rfl, x6 _ _ ht5, sz_lt (by omega), ?_⟩
      refine ⟨_, _, _, _, v1 ++ [.ref p1], v2 ++ [.ref p2], rfl, ex_mut (e5.trans x6) hptH, by rw [upd_ne nrt]; exact x6 _ _ hr5, upd_same, (hv15.ex x6).upd (x6 _ _ ht5), ?_⟩
      rw [show i + 1 - m = (i - m) + 1 by omega, List.range_succ, List.map_append]
      refine ((hv25.ex x6).snoc (xs := row2 M m tp (m + (i - m))) ?_).upd (x6 _ _ ht5)
      rw [show m + (i - m) = i by omega]
      exact hp6
    · rw [decide_eq_false hc]
      refine ⟨_, _, _, _, v1 ++ [.ref p1], v2, rfl, e5, hr5, ht5, hv15, ?_⟩
      rw [show i + 1 - m = i - m by omega]
      exact hv25
  · rintro σ H3 ⟨u5, u6, u7, u8, v1, v2, rfl, e3, hr3, ht3, hv1, hv2⟩
    have l1 : v1.length = tp := by rw [hv1.1, List.length_map, List.length_range]
    have l2 : v2.length = tp - m := by rw [hv2.1, List.length_map, List.length_range]
    refine ⟨_, rfl, tp, 1, rfl, rfl, _, rfl, tp, 1, rfl, rfl, by show 2 ≤ sizeLine; decide, fun p1 hp1 => ?_⟩
    have x4 := ex_new (o := .tup [.int (tp + 1 : Nat), .int (tp + 1 : Nat)]) hp1
    have hp4 : SqT K (upd H3 p1 (.tup [.int (tp + 1 : Nat), .int (tp + 1 : Nat)])) p1 (nv [tp + 1, tp + 1]) := SqT.of upd_same
    generalize (upd H3 p1 (.tup [.int (tp + 1 : Nat), .int (tp + 1 : Nat)])) = H4 at x4 hp4 ⊢
    refine ⟨_, rfl, pr, _, rfl, .inr (SqL.of (x4 _ _ hr3)), _, rfl, _, rfl, _, rfl, pt, _, rfl, .inr (SqL.of (x4 _ _ ht3)), ?_, fun l hl => ?_⟩
    · show (v1 ++ (V.ref p1 :: V.ref p1 :: (v2 ++ []))).length ≤ sizeLine
      exact Nat.le_of_lt (sz_lt (by simp; omega))
    · intro x dx nx nd _
      have x5 := x4.trans (ex_new (o := .lst (v1 ++ (V.ref p1 :: V.ref p1 :: (v2 ++ [])))) hl)
      refine mk_mach (vs := v1 ++ (V.ref p1 :: V.ref p1 :: (v2 ++ []))) (e3.trans x5) (SqL.of upd_same) (Tups.seqs ?_) (mrows_mw hmt hlow htz) q nx nd
      have hp5 := ex_t (ex_new (o := .lst (v1 ++ (V.ref p1 :: V.ref p1 :: (v2 ++ [])))) hl) hp4
      clear nx nd
      generalize (upd H4 l (.lst (v1 ++ (V.ref p1 :: V.ref p1 :: (v2 ++ []))))) = H5 at x5 hp5 ⊢
      unfold mrows
      rw [List.append_nil, List.append_assoc]
      exact (hv1.ex x5).append (((Tups.nil.snoc hp5).snoc hp5).append (hv2.ex x5))
abbrev s_machine_against : Stmt := topS 58
abbrev N_machine_against : List Str := ["counts", "count", "links", "mark", "size"]
theorem sc_machine_against : FnScope N_machine_against ["counts", "count"] (fnScope s_machine_against) := ⟨rfl, rfl, rfl, by decide +kernel, rfl, by decide +kernel, by decide +kernel⟩
def spAgainst (K : PySem.W.Frag) (CM : Addr) : Sp := sp2 fun x y H Q => ∃ a, ∃ (ns : List Nat) (n : Nat), x = .ref a ∧ y = .int n ∧ SqL K H a (nv ns) ∧ ns.length ≤ 60 ∧ n ≤ 60 ∧ ¬ Cl (fun y => y ∈ ns) n ∧
  ∀ p rows H', Ex H H' → Mach K CM H' p 2 rows → MW 2 rows → (∀ c ∈ ns, pw (col rows 0) c = pw (col rows 1) c) → pw (col rows 0) n ≠ pw (col rows 1) n → Q (.ref p) H'
theorem c_machine_against {CM : Addr} (d : DefB K mg "machine_against" s_machine_against ["counts", "count"]) (T : Mx K mg CM) (Z : Zb mg) (c_links_of : Cal P w K mg base 4 "links_of" (spLinks K) []) (c_mark_for : Cal P w K mg base 6 "mark_for" (spMarkFor K) [])
    (c_apart : Cal P w K mg base 6 "apart" (spApart K CM) []) (c_least_power : Cal P w K mg base 2 "least_power" (spLeast K) []) (c_ring_of : Cal P w K mg base 6 "ring_of" (spRing K CM) []) (c_marked_machine : Cal P w K mg base 6 "marked_machine" (spMarked K CM) []) :
    CalD P w K mg base 7 "machine_against" s_machine_against ["counts", "count"] (spAgainst K CM) := by
  refine cald_of d sc_machine_against len2 fun vs0 H Q E h f0 cdv A outer s0 E' hr => ?_
  obtain ⟨x, y, rfl, a, ns, n, rfl, rfl, ha, hz, hn, hc, q⟩ := h
  have n0 : 0 < n := Nat.pos_of_ne_zero fun z => hc (z ▸ .zero)
  refine ⟨_, (pss_cons (ps_par (i := 2) (j := 3) (by rfl) sc_machine_against.nd rfl rfl (by decide) rfl rfl (pa_cons (pe_c c_links_of hr (by decide) (by rfl) (pa_cons (pv 0) pa_nil)) (pa_cons (pe_c c_mark_for hr (by decide) (by rfl) (pa_cons (pv 0) (pa_cons (pv 1) pa_nil))) pa_nil)) (by rfl))
      (pss_cons (ps_if (pt_cmpR op_isN (pv 3) pe_non (nomark _))
        (pss_one ps_never)
        pss_nil)
      (pss_cons (ps_if (pt_cmpR on_eq (pe_callB (call_lenK K) (by rfl) Z.len (by decide +kernel) (pa_cons (pv 2) pa_nil)) pe_int (nomark _))
        (pss_one (ps_ret (pe_c0 c_apart hr (by decide) (by rfl))))
        pss_nil)
      (pss_cons (ps_set (i := 4) sc_machine_against.nd rfl (Or.inl rfl) (pe_c c_least_power hr (by decide) (by rfl) (pa_cons (pv 2) (pa_cons (pv 1) pa_nil))))
      (pss_one (ps_ret (pe_ifExp (pt_cmpR on_gt (pv 4) pe_int (nomark _)) (pe_c c_ring_of hr (by decide) (by rfl) (pa_cons (pv 4) pa_nil)) (pe_c c_marked_machine hr (by decide) (by rfl) (pa_cons (pv 3) pa_nil))))))))), ?_⟩
  refine ⟨_, rfl, _, rfl, a, ns, rfl, ha, hz, fun pL L H1 e1 hpL hLl hL => ?_⟩
  refine ⟨_, rfl, _, rfl, _, _, rfl, a, ns, n, rfl, rfl, ex_l e1 ha, hz, hn, hc, fun pM M H2 e2 hpM hM => ⟨_, _, rfl, ?_⟩⟩
  have e12 := e1.trans e2
  have hpL2 := e2 _ _ hpL
  refine ⟨_, rfl, rfl, _, rfl, ?_⟩
  rw [decide_eq_false (show ¬ V.ref pM = V.non by intro z; cases z)]
  refine ⟨_, rfl, pL, _, rfl, .inl (SqL.of hpL2), (nv L).length, 0, rfl, rfl, _, rfl, ?_⟩
  have h00 : ∀ rows : List (List Nat), pw (col rows 0) 0 = pw (col rows 1) 0 := fun rows => by rw [pw_zero, pw_zero, col_len, col_len]
  by_cases hL0 : (nv L).length = 0
  · rw [decide_eq_true hL0]
    refine ⟨rfl, fun p H3 e3 hm => q p apartR H3 (e12.trans e3) hm apart_mw (fun c hcn => ?_) (apart_apart n0)⟩
    by_cases c0 : c = 0
    · rw [c0]; exact h00 _
    · have := List.length_pos_of_mem ((hL c).mpr ⟨hcn, by omega⟩)
      rw [nv_len] at hL0
      omega
  · rw [decide_eq_false hL0]
    refine ⟨_, rfl, _, rfl, _, _, rfl, pL, L, n, rfl, rfl, SqL.of hpL2, by omega, hn, fun s H3 e3 hs => ?_⟩
    have e13 := e12.trans e3
    refine ⟨_, rfl, s, 0, rfl, rfl, _, rfl, ?_⟩
    rcases hs with rfl | ⟨s0, sz, hns, hLs⟩
    · rw [decide_eq_false (Nat.lt_irrefl 0)]
      obtain ⟨b, hb⟩ : ∃ b, M[0]? = some b := ⟨_, List.getElem?_eq_getElem (List.length_pos_of_mem hM.top)⟩
      have h0M : 0 ∉ M := fun z => hc (hM.zero.mp z)
      obtain ⟨_, hlow⟩ := sorted_first hM.up hb
      have hbn := hlow n hM.top
      have hlast : M.getLast? = some n := by
        have hne : M ≠ [] := fun z => by rw [z] at hb; cases hb
        rw [List.getLast?_eq_some_getLast hne]
        have hl := List.getLast_mem hne
        have h1 := hM.le _ hl
        obtain ⟨j, hj⟩ := List.getElem?_of_mem hM.top
        have hjl := (List.getElem?_eq_some_iff.mp hj).1
        have hlast' : M[M.length - 1]? = some (M.getLast hne) := by rw [List.getLast_eq_getElem, List.getElem?_eq_getElem]
        by_cases e : j = M.length - 1
        · subst e; rw [hlast'] at hj; exact hj
        · have := sorted_lt hM.up hj hlast' (by omega)
          omega
      have hMl : M.length ≤ n + 1 := by
        have := nd_le (n + 1) M (hM.up.imp fun h => Nat.ne_of_lt h) fun x hx => by have := hM.le x hx; omega
        exact this
      refine ⟨_, rfl, _, rfl, pM, M, b, n, rfl, ex_t e3 hpM, hM.up, fun y hy => Nat.pos_of_ne_zero fun z => h0M (z ▸ hy), hb, hlast, by omega, by omega, fun p H4 e4 hm => ?_⟩
      exact q p _ H4 (e13.trans e4) hm (mrows_mw hbn hlow (by omega)) (fun c hcn => m_agree hbn hlow (hM.fit c (.mem hcn))) (m_apart hbn hlow hM.top h0M)
    · rw [decide_eq_true s0]
      refine ⟨_, rfl, _, rfl, s, rfl, s0, sz, fun p H4 e4 hm => ?_⟩
      refine q p _ H4 (e13.trans e4) hm (ring_mw s0 sz) (fun c hcn => ?_) fun z => ?_
      · by_cases c0 : c = 0
        · rw [c0]; exact h00 _
        · exact (ring_agree s0).mpr (hLs c ((hL c).mpr ⟨hcn, by omega⟩))
      · have := (ring_agree s0).mp z
        omega
end
end Bf
/-! The own error: made with super().__init__(text) and one field. -/
namespace Bf
open PySem PySem.Spec PyProof.Rows L2
open C8 (fnScope fnBody fnArgs)
abbrev Ve := "ValueError.__init__"
/-- an error of class C, its field f -/
def spErr (C : Addr) (f : Str) : Sp := fun vs H Q _ => ∃ a v, vs = [.ref a, v] ∧ H a = some (exo a C none) ∧ ∀ dx, H dx = none → dx ≠ a → Q .non (upd (upd H dx (exd dx [(f, v)])) a (exo a C (some dx)))
/-- what the class C and its __init__ at fI must be -/
structure ErrC (P : Program) (K : PySem.W.Frag) (C fI : Addr) (qual f : Str) (slf arg : Str) (p0 p1 p2 p3 p4 p5 p6 p7 p8 p9 : Pos) (txt : Str) (tk : Nat) (scope : Scope) (fd : FuncData) : Prop where
  T : OexC K C
  cd : ∃ cdD, PySem.W.clsIn K C = some cdD ∧ PySem.W.mroIn K C (.ref C) = some true
  at_ : PySem.W.findIn K (.ref C) f = some none
  sup : PySem.W.ks_superIn K C C "__init__" = some (some (.builtin Ve))
  sub : PySem.W.subIn K (.ref C) (.type "ValueError") = some true
  opq : PySem.W.nsIn K cStatics "thirdparty.any" = some none
  nsu : PySem.W.nsIn K mainGlobals "super" = some none
  ex : ∃ (params : Arguments) (ar : Arg) (oc ccl cl dV kV doc pm ct : Value) (od cdd cld an : Option Addr) (osl ccs csl : Array (Option Value)) (cda cc : Addr) (vs : Array Value) (file : Str) (tf : Tok),
    fd = PySem.W.ksFn "__init__" qual params [.Expr (.Call (.Attribute (.Call (.Name "super" p0) [] [] p1) "__init__" p2) [.Constant (.str txt) tk p3] [] p4) p5, .Assign [.Attribute (.Name slf p6) f p7] (.Name arg p8) p9] scope dV kV doc pm an (.ref cda) ct cc ∧
    (params.posonlyargs ++ params.args).head? = some ar ∧ ar.arg = slf ∧ K.lookup fI = some ⟨oc, od, .func fd, osl⟩ ∧ K.lookup cda = some ⟨ccl, cdd, .fields vs, ccs⟩ ∧ PySem.W.codeIn K (.ref cda) qual = true ∧ vs[2]? = some (.str file tf) ∧ ((P.main.file : Str) == file) = true ∧
    K.lookup cc = some ⟨cl, cld, .cell (some (.ref C)), csl⟩
  names : scope.kind = .function ∧ scope.isCoroutine = false ∧ scope.isGenerator = false ∧ scope.names.lookup slf = some .local ∧ scope.names.lookup arg = some .local ∧ scope.names.lookup ("__class__" : Str) = some .free ∧ scope.names.lookup ("super" : Str) = some .globalImplicit ∧ ∀ x ∈ scope.names, x.2 ≠ .cell
  top : (P.main.scope.names.lookup ("super" : Str)).isSome = false
/-- the wrapper of super().__init__ called -/
theorem err_super {P : Program} {w : World} {A : Around} {E : Value → Shared → Prop} {h : Heap} {g : Array GenState} {d : Drawn} {t : Nat} {os : OsState} {nm q : Str} {C N : Addr} {bs bm : List Value} {hdct : Bool} {sn : List Str} {sub : List Value} {ab : Bool} {col : Option Bool} {dd : Option Addr}
    {k0 k1 k2 k3 k5 : Option Value} {u e t0 : Addr} {rest : List Value} {Q : Value → Shared → Prop}
    (hC : h.get? C = some (excClassObj nm q C N bs bm hdct sn sub ab col dd k0 k1 k2 k3 k5 "ValueError.__new__")) (he : h.get? e = some ({ cls := .ref C, dict := none, data := .fields #[.ref t0, .none, .none, .none, .bool false, .none] } : Obj)) (hu : h.get? u = some (PySem.W.kxs_mw Ve e)) (hrest : rest.length ≤ sizeLine)
    (hq : ∀ h' t1, (∀ b o, b ≠ e → h.get? b = some o → h'.get? b = some o) → h'.get? e = some ({ cls := .ref C, dict := none, data := .fields #[.ref t1, .none, .none, .none, .bool false, .none] } : Obj) → Q .none ⟨h', g, d, t, os⟩) :
    wpAny (model P w) A (call (.ref u) rest) Q E ⟨h, g, d, t, os⟩ := by
  refine wpAny_call (codeAny_of_tree ?_)
  show wpAny _ A.in1 (callAny (.ref u) ⟨rest, []⟩) _ _ _
  simp only [callAny]
  refine wpAny_bind (wpAny_load hu ?_)
  simp only [PySem.W.kxs_mw, show (Value.type "method-wrapper" == Value.type "method" || Value.type "method-wrapper" == Value.type "builtin_function_or_method" || Value.type "method-wrapper" == Value.type "method-wrapper") = true by decide, if_true]
  refine PySem.W.KFB.if_so (by decide) ?_
  refine wpAny_bind (PySem.W.check_bound_init F.excBase_ValueError.toExcCallFacts hC he rfl ?_)
  refine wpAny_bind (wpAny_pure (wpAny_pure ?_))
  refine ⟨plainId_quiet F.excBase_ValueError.init.plain _, codeAny_builtin F.excBase_ValueError.initEntry ?_⟩
  exact PySem.W.exc_init_tree (cls := .ref C) (t0 := t0) (dv := none) (c2 := .none) (c3 := .none) (b4 := .bool false) he hrest fun h' k e' _ => hq h' _ k e'
section
variable {P : Program} {w : World} {K : PySem.W.Frag} {mg : Str → Option Value} {base : Heap} {CX : CXT} {C fI : Addr} {qual f self arg : Str} {p0 p1 p2 p3 p4 p5 p6 p7 p8 p9 : Pos} {txt : Str} {tk : Nat} {scope : Scope} {fd : FuncData} {k : Nat}
theorem err_ok (R : ErrC P K C fI qual f self arg p0 p1 p2 p3 p4 p5 p6 p7 p8 p9 txt tk scope fd) (hmg : mg "super" = none) (hne : self ≠ arg) (hdb1 : (arg == ("__debug__" : Str)) = false) (hdb2 : (self == ("__debug__" : Str)) = false) (hev : ∀ env : Env, ∃ pl : Sem Bool, eval (.Call (.Attribute (.Call (.Name "super" p0) [] [] p1) "__init__" p2) [.Constant (.str txt) tk p3] [] p4) env = (do
      let ov ← attributeBase (.Call (.Name "super" p0) [] [] p1) "__init__" env (eval (.Call (.Name "super" p0) [] [] p1) env)
      standAt p2.atName
      let (f, first) ← holding [ov] (getMethod ov "__init__" pl)
      callWith p4 f first (backTo p4 (starEach [.Constant (.str txt) tk p3] env)) []))
    (hint : ∀ (L cda cc : Addr), interactive (PySem.W.ksEnv qual scope L fI (.ref cda) cc) = false)
    (hsw : ∀ (L cda cc : Addr), swapsWith (.Call (.Attribute (.Call (.Name "super" p0) [] [] p1) "__init__" p2) [.Constant (.str txt) tk p3] [] p4) none p5.line (PySem.W.ksEnv qual scope L fI (.ref cda) cc) = pure false) : FnOk P w K mg base CX (k + 1) fI fd [self, arg] (spErr C f) := by
  refine ⟨fun vs H Q E h => by obtain ⟨a, v, rfl, _⟩ := h; rfl, fun A outer s H args us vs Q E hr e0 hb r hsp => ?_⟩
  obtain ⟨a, v, rfl, ha, q⟩ := hsp
  obtain ⟨params, ar, oc, ccl, cl, dV, kV, doc, pm, ct, od, cdd, cld, an, osl, ccs, csl, cda, cc, fvs, file, tf, rfl, hpar, har, lk, hcode, hcd, hvs, hfile, hcell⟩ := R.ex
  obtain ⟨nk, nco, ngen, nself, narg, ncls, nsup, nocell⟩ := R.names
  obtain ⟨cdD, hD, hsubD⟩ := R.cd
  have T := R.T
  obtain ⟨nm, qn, N, bs, bm, sn, sub, ab, col, dd, k0, k1, k2, k3, k5, hC, hbm⟩ := id T.cls
  have KX : K.In s.heap := e0.mod.kin.keeps fun b o e => (e0.bs b o e).1
  have lim : s.heap.NoLimit := e0.mod.nolimit.keeps fun b o e => (e0.bs b o e).1
  obtain ⟨ua, us1, rfl, ra, r1⟩ : ∃ ua us1, us = ua :: us1 ∧ RelV (.ref a) ua ∧ Vals [v] us1 := by
    cases r with
    | cons h1 h2 => exact ⟨_, _, rfl, h1, h2⟩
  obtain ⟨uv, rfl, rv⟩ := r1.one
  obtain rfl : ua = Value.ref a := ra
  have hloc : ∀ y ∈ [self, arg].zip [Value.ref a, uv], scope.names.lookup y.1 = some .local := by
    intro y hy
    have hy' : y = (self, Value.ref a) ∨ y = (arg, uv) := by simpa using hy
    rcases hy' with rfl | rfl
    · exact nself
    · exact narg
  refine ks_codeAny_call_defAt hr.depth (KX _ _ lk) rfl lim (PySem.W.codeRec_of KX hcd) rfl hb nocell hloc (fun h₀ hns hk => ?_) nco ngen nk
  have I1 : Inv (cxOf CX P w K mg base [] qual ⟨.function, [], false, false, []⟩ fI (.ref cda) A outer s H E) [] [] H { s with heap := h₀, toks := s.toks + ([self, arg].zip [Value.ref a, uv]).length } := by
    have noA : ∀ b : Addr, b ∉ ([] : List Addr) := fun b z => absurd z (by simp)
    refine ⟨⟨e0.mod, rfl, rfl, rfl, Nat.le_refl _, fun y z c h1 h2 => (by cases h1), fun y hy => ?_, fun y c _ h => (by cases h), fun _ => hr.hd, Around.frames_deeper e0.frames, .inr ⟨rfl, rfl⟩, fun b z => absurd z (noA b), e0.bs, e0.bsz, fun b _ _ => noA b, fun b z => absurd z (noA b), e0.funs, e0.frf⟩,
      rfl, e0.bare, Un.kept hk, ⟨_, hns, fun i y v h1 => (by cases h1)⟩, fun y c h => (by cases h), e0.hok.fresh (Nat.le_refl _), fun y c h => (by cases h), fun p hp => absurd (show p ∈ ([] : List (Addr × Obj)) from hp) (by simp), e0.hok.kept hk, rfl⟩
    rcases hy with hy | hy <;> cases hy
  generalize htk : s.toks + ([self, arg].zip [Value.ref a, uv]).length = tks at I1 ⊢
  have vself : (fun x => (([self, arg].zip [Value.ref a, uv]).reverse).lookup x) self = some (Value.ref a) := by
    show ([(arg, uv), (self, Value.ref a)] : List (Str × Value)).lookup self = some (Value.ref a)
    rw [List.lookup_cons, show (self == arg) = false from by simpa using hne, List.lookup_cons, beq_self_eq_true]
  have varg : (fun x => (([self, arg].zip [Value.ref a, uv]).reverse).lookup x) arg = some uv := by
    show ([(arg, uv), (self, Value.ref a)] : List (Str × Value)).lookup arg = some uv
    rw [List.lookup_cons, beq_self_eq_true]
  generalize (fun x => (([self, arg].zip [Value.ref a, uv]).reverse).lookup x) = mL at hns vself varg
  have K1 := I1.kIn
  have aL : ∀ {h : Heap} {t1 : Addr} {dv : Option Addr}, h.Ns s.heap.objs.size mL → h.get? a = some ({ cls := .ref C, dict := dv, data := .fields #[.ref t1, .none, .none, .none, .bool false, .none] } : Obj) → a ≠ s.heap.objs.size := fun {h t1 dv} hn he z => by
    obtain ⟨o, es, ep, e1, e2, _⟩ := hn
    rw [← z, he] at e1
    have z2 := Option.some.inj e1
    subst z2
    cases e2
  obtain ⟨t1, hea⟩ := exo_at I1.hok ha
  have hD' : ∃ oD, h₀.get? C = some oD ∧ oD.data = .cls cdD := by
    unfold PySem.W.clsIn at hD
    split at hD
    · rename_i c d cd' sl ho
      cases hD
      exact ⟨_, K1 _ _ ho, rfl⟩
    · cases hD
  obtain ⟨oD, hD1, hD2⟩ := hD'
  obtain ⟨g, dr, os⟩ : (Array GenState) × Drawn × OsState := ⟨s.gens, s.drawn, s.os⟩
  show _root_.PySem.wpAt (model P w) (A.deeper (PySem.W.ksEnv qual scope s.heap.objs.size fI (.ref cda) cc)) (.func _ (PySem.W.ksEnv qual scope s.heap.objs.size fI (.ref cda) cc)) (execs _ (PySem.W.ksEnv qual scope s.heap.objs.size fI (.ref cda) cc)) _ _ _
  obtain ⟨pl, hev⟩ := hev (PySem.W.ksEnv qual scope s.heap.objs.size fI (.ref cda) cc)
  refine ks_wpAt_execs_cons (ks_wpAt_Expr_any (ks_wpAt_MethodCall (pl := pl) ?_ hev) (hint _ _ _) (hsw _ _ _))
  refine ks_wpAt_super_base (env := PySem.W.ksEnv qual scope s.heap.objs.size fI (.ref cda) cc) nsup ncls rfl rfl (K1 _ _ lk) rfl hpar rfl (K1 _ _ hcode) rfl hvs hfile R.top ?_
  obtain ⟨mb, hblt, hmb⟩ := e0.mod.blt
  refine PySem.W.ks_loadName_global nk nsup (Calls.loadGlobal_builtin (env := PySem.W.ksEnv qual scope s.heap.objs.size fI (.ref cda) cc) (e0.mod.glob.keeps I1.bk) hmg (hblt.keeps I1.bk) ((hmb _ (by decide +kernel)).trans (by decide +kernel)) ⟨rfl, ?_⟩)
  refine wpAny_loadName_free nk ncls rfl ⟨_, K1 _ _ hcell, rfl⟩ ?_
  rw [har]
  refine wpAny_loadName_local nk nself hns vself ?_
  refine ks_wpAny_isType_cls hD1 hD2 ⟨rfl, ?_⟩
  refine ks_wpAny_call_super hD1 hD2 hea rfl (fun c e => by cases e) (PySem.W.looks_mroIn K1 hsubD) (fun h2 e2 k2 => ?_)
  have ne0 : ∀ b o, h₀.get? b = some o → h2.get? b = some o := k2
  have I2 := I1.kept (t' := tks) ne0
  have K2 := I2.kIn
  have hclC : PySem.W.ks_superIn K C C "__init__" = some (some (.builtin Ve)) := R.sup
  unfold PySem.W.ks_superIn at hclC
  rw [hD] at hclC
  have InS : PySem.W.InstAt h2 a ({ cls := .ref C, dict := none, data := .fields #[.ref t1, .none, .none, .none, .bool false, .none] } : Obj) C none := ⟨k2 _ _ hea, rfl, rfl, trivial⟩
  have hI : PySem.W.Looks (model P w) h2 (isInstance (.ref a) (.type "ValueError")) true := InS.type.andThen (PySem.W.looks_subIn K2 R.sub)
  have haC : a ≠ C := PySem.W.ks_ne K2 InS hD
  refine PySem.W.kxs_getMethod PySem.W.kxs_ValueError e2 (PySem.W.looks_opaque K2 R.opq) (l₀ := cdD.mro) (fun A Q E s k q => wpAny_bind ((PySem.W.looks_clsIn K2 hD) A _ E s k (wpAny_pure q))) rfl K2 hclC hI haC rfl ?_
  have I3 := I2.kept (t' := tks + 1) (h' := h2.push (PySem.W.kxs_mw Ve a)) fun _ _ q => Heap.get?_push_of_some _ q
  have hstar : starEach [Expr.Constant (.str txt) tk p3] (PySem.W.ksEnv qual scope s.heap.objs.size fI (.ref cda) cc) = [(false, eval (.Constant (.str txt) tk p3) (PySem.W.ksEnv qual scope s.heap.objs.size fI (.ref cda) cc))] := rfl
  rw [hstar]
  refine PySem.W.kxs_callWith (i := Ve) (x := a) (u := h2.objs.size) rfl (Calls.evalArgs_plain (Calls.spliced_cons ?_))
  rw [if_neg Bool.false_ne_true]
  refine Calls.Constant_str (Calls.spliced_nil ⟨Heap.get?_push_size _ rfl, ?_⟩)
  have K3 := I3.kIn
  refine err_super (K3 _ _ hC) (Heap.get?_push_of_some _ (k2 _ _ hea)) (Heap.get?_push_size _ rfl) (by show 1 ≤ sizeLine; decide) fun h4 t4 k4 he4 => ?_
  have I4 : Inv (cxOf CX P w K mg base [] qual ⟨.function, [], false, false, []⟩ fI (.ref cda) A outer s H E) [] [] H { s with heap := h4, toks := tks + 1 + 1 } := by
    have J := I3.write (t' := tks + 1 + 1) (x := a) (e := a) (o := exo a C none) (by rw [ha]; exact True.intro) (.inl rfl) k4 ⟨_, he4⟩ (exo_ok he4)
    have eu : upd H a (exo a C none) = H := by
      funext b
      by_cases hb : b = a
      · rw [hb, upd_same, ha]
      · rw [upd_ne hb]
    rwa [eu] at J
  have hns4 : h4.Ns s.heap.objs.size mL := hns.at fun o z => k4 _ _ (Ne.symm (aL hns hea)) (Heap.get?_push_of_some _ (k2 _ _ z))
  refine ks_wpAt_execs_cons (ks_wpAt_Assign_Attr (wpAt_of_wpAny ?_))
  refine wpAny_Name (wpAny_loadName_local nk narg hns4 varg ?_) hdb1
  refine wpAny_Name (wpAny_loadName_local nk nself hns4 vself ?_) hdb2
  refine ost_new T I4 ha R.at_ rv fun dx s5 n ne J => ?_
  refine wpAt_of_wpAny (wpAny_execs_nil ?_)
  exact ⟨V.non, _, J.os, J.bare, J.base, J.hok, rfl, q dx n ne⟩
end
end Bf
namespace Bf
open PySem PySem.Spec PyProof.Rows L2 RZ PpSet
open C8 (Cal Met Mak Def cal0 met0 mak0 pe_c pe_mk pe_mt pe_mt0 fnScope fnBody InsC call_isC tCut pss_cut)
open Evl (Ex ex_l ex_t ex_rd fresh_back sz_of sz_lt)
section
variable {P : Program} {w : World} {K : PySem.W.Frag} {mg : Str → Option Value} {base : Heap}
/-- what the text's class Bench must be -/
structure Bx (K : PySem.W.Frag) (mg : Str → Option Value) (CB : Addr) : Prop where
  cl : Cls K CB
  nM : NoAttr K CB "machine"
  nP : NoAttr K CB "_program"
  nA : NoAttr K CB "_past"
structure BFs (n : Nat) (fs : List (Str × V)) (m pr pa : Addr) : Prop where
  m : fs.lookup ("machine" : Str) = some (.ref m)
  pr : fs.lookup ("_program" : Str) = some (.ref pr)
  pa : fs.lookup ("_past" : Str) = some (.ref pa)
  no : ∀ g : Str, g ≠ ("machine" : Str) → g ≠ ("_program" : Str) → g ≠ ("_past" : Str) → fs.lookup g = none
  few : fs.length ≤ n
theorem ne_mp : ¬ ("machine" : Str) = ("_program" : Str) := by decide +kernel
theorem ne_ma : ¬ ("machine" : Str) = ("_past" : Str) := by decide +kernel
theorem ne_pa : ¬ ("_program" : Str) = ("_past" : Str) := by decide +kernel
theorem BFs.past {n : Nat} {fs : List (Str × V)} {m pr pa : Addr} (h : BFs n fs m pr pa) (p : Addr) : BFs (n + 1) (putF "_past" (.ref p) fs) m pr p :=
  ⟨by rw [lookup_putF, if_neg ne_ma]; exact h.m, by rw [lookup_putF, if_neg ne_pa]; exact h.pr, by rw [lookup_putF, if_pos rfl], fun g h1 h2 h3 => by rw [lookup_putF, if_neg h3]; exact h.no g h1 h2 h3, Nat.le_trans (length_putF _ _ _) (Nat.succ_le_succ h.few)⟩
theorem BFs.prog {n : Nat} {fs : List (Str × V)} {m pr pa : Addr} (h : BFs n fs m pr pa) (p : Addr) : BFs (n + 1) (putF "_program" (.ref p) fs) m p pa :=
  ⟨by rw [lookup_putF, if_neg ne_mp]; exact h.m, by rw [lookup_putF, if_pos rfl], by rw [lookup_putF, if_neg (Ne.symm ne_pa)]; exact h.pa, fun g h1 h2 h3 => by rw [lookup_putF, if_neg h2]; exact h.no g h1 h2 h3, Nat.le_trans (length_putF _ _ _) (Nat.succ_le_succ h.few)⟩
/-- at b a bench for the machine at m, its program the tuple xs -/
def BenchAt (n : Nat) (K : PySem.W.Frag) (CM CB : Addr) (H : Hp) (b m : Addr) (c : Nat) (rows : List (List Nat)) (xs : List V) : Prop :=
  ∃ dx fs pr pa ys, H b = some (.ins CB dx fs) ∧ BFs n fs m pr pa ∧ SqT K H pr xs ∧ SqT K H pa ys ∧ ys.length ≤ n ∧ Mach K CM H m c rows ∧ m ≠ b
theorem BenchAt.ex {n : Nat} {CM CB : Addr} {H H' : Hp} {b m : Addr} {c : Nat} {rows : List (List Nat)} {xs : List V} (h : BenchAt n K CM CB H b m c rows xs) (e : Ex H H') : BenchAt n K CM CB H' b m c rows xs :=
  let ⟨dx, fs, pr, pa, ys, h1, h2, h3, h4, h5, h6, h7⟩ := h; ⟨dx, fs, pr, pa, ys, e _ _ h1, h2, ex_t e h3, ex_t e h4, h5, h6.ex e, h7⟩
theorem Mach.exB {CM : Addr} {H H' : Hp} {m b : Addr} {c : Nat} {rows : List (List Nat)} {C dx : Addr} {fs : List (Str × V)} (h : Mach K CM H m c rows) (hb : H b = some (.ins C dx fs)) (ne : m ≠ b) (e : ExB b H H') : Mach K CM H' m c rows := by
  obtain ⟨dm, sp, fd, vs, h1, h2, h3⟩ := h
  exact ⟨dm, sp, fd, vs, e _ _ ne h1, (exB_ins hb e).1 h2, h3.1, fun i xs hi => let ⟨p, g1, g2⟩ := h3.2 i xs hi; ⟨p, g1, (exB_ins hb e).1 g2⟩⟩
theorem RowAt.exB {H H' : Hp} {a b : Addr} {c : Nat} {row : List Nat} {C dx : Addr} {fs : List (Str × V)} (h : RowAt K H a c row) (hb : H b = some (.ins C dx fs)) (e : ExB b H H') : RowAt K H' a c row :=
  ⟨h.at_.elim (fun z => .inl ((exB_ins hb e).2 z)) fun z => .inr ((exB_ins hb e).1 z), h.lt, h.few⟩
abbrev s_Bench_init : Stmt := inClass (topS 35) 0
abbrev N_Bench_init : List Str := ["self", "machine"]
theorem sc_Bench_init : FnScope N_Bench_init ["self", "machine"] (fnScope s_Bench_init) := ⟨rfl, rfl, rfl, by decide +kernel, rfl, by decide +kernel, by decide +kernel⟩
def spBench (K : PySem.W.Frag) (CM CB : Addr) : Sp := sp2 fun x y H Q => ∃ b m dx, ∃ (c : Nat) (rows : List (List Nat)), x = .ref b ∧ y = .ref m ∧ H b = some (.ins CB dx []) ∧ Mach K CM H m c rows ∧ m ≠ b ∧ ∀ H', ExB b H H' → BenchAt 3 K CM CB H' b m c rows [] → Q .non H'
theorem c_Bench_init {CM CB : Addr} (d : MakB K mg "Bench" "Bench.__init__" CB s_Bench_init ["self", "machine"]) (T : Mx K mg CM) (B : Bx K mg CB) (hIs : C8.InsC K CM) (Z : Zb mg) : Mak P w K mg base 1 "Bench" CB (spBench K CM CB) [] := by
  refine mak_of d sc_Bench_init len2 fun vs0 H Q E h f0 cdv A outer s E' hr => ?_
  obtain ⟨x, y, rfl, b, m, dx, c, rows, rfl, rfl, hb, hM, nb, q⟩ := h
  refine ⟨_, (pss_cons (ps_if (pt_not (pt_val (pe_callB (C8.call_isC hIs) (by rfl) Z.isinstance (by decide +kernel) (pa_cons (pv 1) (pa_cons (pe_glob (v := .ref CM) rfl T.mgMachine rfl) pa_nil)))))
        (pss_one ps_never)
        pss_nil)
      (pss_cons (ps_fld (pv 0) (pv 1) rfl)
      (pss_cons (ps_fld (pv 0) (pe_tup pa_nil) rfl)
      (pss_one (ps_fld (pv 0) (pe_tup pa_nil) rfl))))), ?_⟩
  obtain ⟨dm, sp, fd, zs, hm, hsp, hts⟩ := id hM
  refine ⟨_, rfl, m, dm, _, rfl, hm, true, rfl, ?_⟩
  refine ⟨_, rfl, _, rfl, b, CB, dx, _, rfl, hb, B.cl, B.nM, by show 0 < 1000; decide, ?_⟩
  have b1 : ExB b H (upd H b (.ins CB dx (putF "machine" (.ref m) []))) := exB_upd
  have hb1 : (upd H b (.ins CB dx (putF "machine" (.ref m) []))) b = some (.ins CB dx (putF "machine" (.ref m) [])) := upd_same
  generalize (upd H b (.ins CB dx (putF "machine" (.ref m) []))) = H1 at b1 hb1 ⊢
  refine ⟨by show 0 ≤ sizeLine; decide, fun p1 hp1 => ?_⟩
  have n1 : b ≠ p1 := ne_of_none hb1 hp1
  have hb2 : (upd H1 p1 (.tup [])) b = some (.ins CB dx (putF "machine" (.ref m) [])) := by rw [upd_ne n1]; exact hb1
  refine ⟨_, rfl, b, CB, dx, _, rfl, hb2, B.cl, B.nP, by show 1 < 1000; decide, ?_⟩
  have b2 : ExB b H (upd (upd H1 p1 (.tup [])) b (.ins CB dx (putF "_program" (.ref p1) (putF "machine" (.ref m) [])))) := (b1.trans (exB_of (ex_new hp1))).trans exB_upd
  have hb3 : (upd (upd H1 p1 (.tup [])) b (.ins CB dx (putF "_program" (.ref p1) (putF "machine" (.ref m) [])))) b = some (.ins CB dx (putF "_program" (.ref p1) (putF "machine" (.ref m) []))) := upd_same
  have hp1' : (upd (upd H1 p1 (.tup [])) b (.ins CB dx (putF "_program" (.ref p1) (putF "machine" (.ref m) [])))) p1 = some (.tup []) := by rw [upd_ne (Ne.symm n1), upd_same]
  generalize (upd (upd H1 p1 (.tup [])) b (.ins CB dx (putF "_program" (.ref p1) (putF "machine" (.ref m) [])))) = H2 at b2 hb3 hp1' ⊢
  refine ⟨by show 0 ≤ sizeLine; decide, fun p2 hp2 => ?_⟩
  have n2 : b ≠ p2 := ne_of_none hb3 hp2
  have n3 : p1 ≠ p2 := ne_of_none hp1' hp2
  have hb4 : (upd H2 p2 (.tup [])) b = some (.ins CB dx (putF "_program" (.ref p1) (putF "machine" (.ref m) []))) := by rw [upd_ne n2]; exact hb3
  refine ⟨_, rfl, b, CB, dx, _, rfl, hb4, B.cl, B.nA, by show 2 < 1000; decide, ?_⟩
  have b3 : ExB b H (upd (upd H2 p2 (.tup [])) b (.ins CB dx (putF "_past" (.ref p2) (putF "_program" (.ref p1) (putF "machine" (.ref m) []))))) := (b2.trans (exB_of (ex_new hp2))).trans exB_upd
  refine q _ b3 ⟨dx, _, p1, p2, [], upd_same, ⟨?_, ?_, ?_, fun g h1 h2 h3 => ?_, by show 3 ≤ 3; decide⟩, SqT.of ?_, SqT.of ?_, Nat.zero_le _, hM.exB hb nb b3, nb⟩
  · rw [lookup_putF, if_neg ne_ma, lookup_putF, if_neg ne_mp, lookup_putF, if_pos rfl]
  · rw [lookup_putF, if_neg ne_pa, lookup_putF, if_pos rfl]
  · rw [lookup_putF, if_pos rfl]
  · rw [lookup_putF, if_neg h3, lookup_putF, if_neg h2, lookup_putF, if_neg h1]
    rfl
  · rw [upd_ne (Ne.symm n1), upd_ne n3]; exact hp1'
  · rw [upd_ne (Ne.symm n2), upd_same]
abbrev s_Bench_program : Stmt := inClass (topS 35) 2
abbrev N_Bench_program : List Str := ["self"]
theorem sc_Bench_program : FnScope N_Bench_program ["self"] (fnScope s_Bench_program) := ⟨rfl, rfl, rfl, by decide +kernel, rfl, by decide +kernel, by decide +kernel⟩
def spProgram (K : PySem.W.Frag) (CM CB : Addr) : Sp := sp1 fun x H Q => ∃ n b m c rows xs, x = .ref b ∧ BenchAt n K CM CB H b m c rows xs ∧ ∀ p, SqT K H p xs → Q (.ref p) H
theorem c_Bench_program {CM CB : Addr} (d : MetB K CB "program" "Bench.program" s_Bench_program ["self"]) (B : Bx K mg CB) (Z : Zb mg) : Met P w K mg base 1 CB "program" (spProgram K CM CB) [] := by
  refine met_of d sc_Bench_program len1 fun vs0 H Q E h f0 cdv A outer s E' hr => ?_
  obtain ⟨x, rfl, n, b, m, c, rows, xs, rfl, ⟨dx, fs, pr, pa, ys, hb, hf, hpr, _⟩, q⟩ := h
  refine ⟨_, (pss_one (ps_ret (pe_fldK K rfl (pv 0) rfl))), ?_⟩
  exact ⟨_, rfl, b, CB, dx, _, _, rfl, hb, B.cl, B.nP, hf.pr, q pr hpr⟩
abbrev s_Bench_turn : Stmt := inClass (topS 35) 3
abbrev N_Bench_turn : List Str := ["self", "program"]
theorem sc_Bench_turn : FnScope N_Bench_turn ["self", "program"] (fnScope s_Bench_turn) := ⟨rfl, rfl, rfl, by decide +kernel, rfl, by decide +kernel, by decide +kernel⟩
def spTurn (K : PySem.W.Frag) (CM CB : Addr) : Sp := sp2 fun x y H Q => ∃ n b m c rows xs p zs, x = .ref b ∧ y = .ref p ∧ BenchAt n K CM CB H b m c rows xs ∧ n ≤ 900 ∧ SqT K H p zs ∧ ∀ H', ExB b H H' → BenchAt (n + 2) K CM CB H' b m c rows zs → Q .non H'
theorem c_Bench_turn {CM CB : Addr} (d : MetB K CB "turn" "Bench.turn" s_Bench_turn ["self", "program"]) (B : Bx K mg CB) (Z : Zb mg) : Met P w K mg base 1 CB "turn" (spTurn K CM CB) [] := by
  refine met_of d sc_Bench_turn len2 fun vs0 H Q E h f0 cdv A outer s E' hr => ?_
  obtain ⟨x, y, rfl, n, b, m, c, rows, xs, p, zs, rfl, rfl, ⟨dx, fs, pr, pa, ys, hb, hf, hpr, hpa, hy, hM, nb⟩, hn, hp, q⟩ := h
  have few := hf.few
  refine ⟨_, (pss_cons (ps_fld (pv 0) (pe_tup (StX.pa_star (pe_fldK K rfl (pv 0) rfl) (pa_cons (pe_fldK K rfl (pv 0) rfl) pa_nil))) rfl)
      (pss_one (ps_fld (pv 0) (pv 1) rfl))), ?_⟩
  refine ⟨_, rfl, b, CB, dx, _, _, rfl, hb, B.cl, B.nA, hf.pa, pa, _, rfl, .inl hpa, _, rfl, b, CB, dx, _, _, rfl, hb, B.cl, B.nP, hf.pr, ?_, fun p1 hp1 => ?_⟩
  · rw [List.length_append]
    exact Nat.le_of_lt (sz_lt (by simp; omega))
  have n1 : b ≠ p1 := ne_of_none hb hp1
  have hb1 := ex_new (o := .tup (ys ++ [.ref pr])) hp1 _ _ hb
  refine ⟨_, rfl, b, CB, dx, _, rfl, hb1, B.cl, B.nA, by omega, ?_⟩
  have b1 : ExB b H (upd (upd H p1 (.tup (ys ++ [.ref pr]))) b (.ins CB dx (putF "_past" (.ref p1) fs))) := (exB_of (ex_new hp1)).trans exB_upd
  have hf1 := hf.past p1
  have few1 := hf1.few
  have hb2 : (upd (upd H p1 (.tup (ys ++ [.ref pr]))) b (.ins CB dx (putF "_past" (.ref p1) fs))) b = some (.ins CB dx (putF "_past" (.ref p1) fs)) := upd_same
  have hp1' : (upd (upd H p1 (.tup (ys ++ [.ref pr]))) b (.ins CB dx (putF "_past" (.ref p1) fs))) p1 = some (.tup (ys ++ [.ref pr])) := by rw [upd_ne (Ne.symm n1), upd_same]
  generalize (upd (upd H p1 (.tup (ys ++ [.ref pr]))) b (.ins CB dx (putF "_past" (.ref p1) fs))) = H1 at b1 hb2 hp1' ⊢
  refine ⟨_, rfl, _, rfl, b, CB, dx, _, rfl, hb2, B.cl, B.nP, by omega, ?_⟩
  have b2 : ExB b H (upd H1 b (.ins CB dx (putF "_program" (.ref p) (putF "_past" (.ref p1) fs)))) := b1.trans exB_upd
  refine q _ b2 ⟨dx, _, p, p1, ys ++ [.ref pr], upd_same, hf1.prog p, (exB_ins hb b2).1 hp, SqT.of ?_, ?_, hM.exB hb nb b2, nb⟩
  · rw [upd_ne (Ne.symm n1)]; exact hp1'
  · rw [List.length_append, List.length_singleton]; omega
end
end Bf
namespace Bf
open PySem PySem.Spec PyProof.Rows L2 RZ PpSet
open C8 (Cal Met Mak Def cal0 met0 mak0 pe_c pe_mk pe_mt pe_mt0 fnScope fnBody InsC call_isC tCut pss_cut)
open Evl (Ex ex_l ex_t ex_rd fresh_back sz_of sz_lt)
section
variable {P : Program} {w : World} {K : PySem.W.Frag} {mg : Str → Option Value} {base : Heap}
theorem sIx_le (n d k : Nat) : HT.sIx n d (some (k : Int)) = min k n := HT.sIx_nat _ _ _
abbrev s_Bench_put : Stmt := inClass (topS 35) 4
abbrev N_Bench_put : List Str := ["self", "at", "count", "row", "body"]
theorem sc_Bench_put : FnScope N_Bench_put ["self", "at", "count", "row"] (fnScope s_Bench_put) := ⟨rfl, rfl, rfl, by decide +kernel, rfl, by decide +kernel, by decide +kernel⟩
def spPut (K : PySem.W.Frag) (CM CB : Addr) : Sp := sp4 fun x y z u H Q => ∃ k b m a, ∃ (c n : Nat) (rows : List (List Nat)) (row : List Nat), x = .ref b ∧ y = .int 0 ∧ z = .int n ∧ u = .ref a ∧ BenchAt k K CM CB H b m c rows [] ∧ k ≤ 100 ∧ RowAt K H a c row ∧
  ∀ H' t r, ExB b H H' → BenchAt (k + 2) K CM CB H' b m c rows [.ref t] → SqT K H' t [.int (n : Nat), .ref r] → SqT K H' r (nv row) → Q .non H'
theorem c_Bench_put {CM CB : Addr} (d : MetB K CB "put" "Bench.put" s_Bench_put ["self", "at", "count", "row"]) (T : Mx K mg CM) (B : Bx K mg CB) (Z : Zb mg) (c_is_index : Cal P w K mg base 3 "is_index" spIndex []) (c_is_number : Cal P w K mg base 2 "is_number" spNumber [])
    (c_checked_row : Cal P w K mg base 4 "checked_row" (spRow K CM) []) (c_Bench_turn : Met P w K mg base 1 CB "turn" (spTurn K CM CB) []) : Met P w K mg base 5 CB "put" (spPut K CM CB) [] := by
  refine met_of d sc_Bench_put len4 fun vs0 H Q E h f0 cdv A outer s E' hr => ?_
  obtain ⟨x, y, z, u, rfl, k, b, m, a, c, n, rows, row, rfl, rfl, rfl, rfl, hB, hk, ha, q⟩ := h
  obtain ⟨dx, fs, pr, pa, ys, hb, hf, hpr, hpa, hy, hM, nb⟩ := id hB
  refine ⟨_, (pss_cons (ps_if (pt_not (pt_val (pe_c c_is_index hr (by decide) (by rfl) (pa_cons (pv 1) (pa_cons (pe_op on_add (pe_callB (call_lenK K) (by rfl) Z.len (by decide +kernel) (pa_cons (pe_fldK K rfl (pv 0) rfl) pa_nil)) pe_int) pa_nil)))))
        (pss_one ps_never)
        pss_nil)
      (pss_cons (ps_if (pt_not (pt_val (pe_c c_is_number hr (by decide) (by rfl) (pa_cons (pv 2) pa_nil))))
        (pss_one ps_never)
        pss_nil)
      (pss_cons (ps_set (i := 4) sc_Bench_put.nd rfl (Or.inl rfl) (pe_c c_checked_row hr (by decide) (by rfl) (pa_cons (pe_fldK K rfl (pv 0) rfl) (pa_cons (pv 3) pa_nil))))
      (pss_one (ps_expr (pe_mt c_Bench_turn hr (by decide) (pv 0) (pa_cons (pe_tup (StX.pa_star (pe_slice (sl_tupK K) (pe_fldK K rfl (pv 0) rfl) po_none (po_some (pv 1))) (pa_cons (pe_tup (pa_cons (pv 2) (pa_cons (pv 4) pa_nil))) (StX.pa_star (pe_slice (sl_tupK K) (pe_fldK K rfl (pv 0) rfl) (po_some (pv 1)) po_none) pa_nil)))) pa_nil))))))), ?_⟩
  refine ⟨_, rfl, _, rfl, b, CB, dx, _, _, rfl, hb, B.cl, B.nP, hf.pr, pr, _, rfl, .inr hpr, 0, 1, rfl, rfl, _, _, rfl, 0, 1, rfl, rfl, by decide, true, rfl, ?_⟩
  refine ⟨_, rfl, _, rfl, n, rfl, true, rfl, ?_⟩
  refine ⟨_, rfl, b, CB, dx, _, _, rfl, hb, B.cl, B.nM, hf.m, _, rfl, _, _, rfl, m, a, c, rows, row, rfl, rfl, hM, ha.at_, ha.lt, fun r H1 e1 hr1 => ?_⟩
  have hb1 := e1 _ _ hb
  refine ⟨_, rfl, b, dx, _, rfl, hb1, hf.no _ (by decide +kernel) (by decide +kernel) (by decide +kernel), ?_⟩
  refine ⟨_, rfl, b, CB, dx, _, _, rfl, hb1, B.cl, B.nP, hf.pr, _, rfl, _, rfl, pr, [], rfl, ex_t e1 hpr, fun _ => ?_, fun hw => absurd ⟨rfl, rfl⟩ hw⟩
  refine ⟨pr, [], rfl, .inl (ex_t e1 hpr), _, rfl, _, rfl, by show 2 ≤ sizeLine; decide, fun t ht => ?_⟩
  have e2 := e1.trans (ex_new (o := .tup [.int (n : Nat), .ref r]) ht)
  have hb2 := e2 _ _ hb
  have ht2 : SqT K (upd H1 t (.tup [.int (n : Nat), .ref r])) t [.int (n : Nat), .ref r] := SqT.of upd_same
  have hr2 := ex_t (ex_new (o := .tup [.int (n : Nat), .ref r]) ht) hr1
  generalize (upd H1 t (.tup [.int (n : Nat), .ref r])) = H2 at e2 hb2 ht2 hr2 ⊢
  refine ⟨_, rfl, b, CB, dx, _, _, rfl, hb2, B.cl, B.nP, hf.pr, _, rfl, _, rfl, pr, [], rfl, ex_t e2 hpr, fun _ => ?_, fun hw => absurd ⟨rfl, rfl⟩ hw⟩
  refine ⟨pr, [], rfl, .inl (ex_t e2 hpr), by show 1 ≤ sizeLine; decide, fun p hp => ?_⟩
  have e3 := e2.trans (ex_new (o := .tup [.ref t]) hp)
  refine ⟨_, _, rfl, k, b, m, c, rows, [], p, [.ref t], rfl, rfl, hB.ex e3, by omega, SqT.of upd_same, fun H4 b4 hB4 => ?_⟩
  have hb3 := e3 _ _ hb
  exact q H4 t r ((exB_of e3).trans b4) hB4 ((exB_ins hb3 b4).1 (ex_t (ex_new hp) ht2)) ((exB_ins hb3 b4).1 (ex_t (ex_new hp) hr2))
abbrev s_Bench_could : Stmt := inClass (topS 35) 6
abbrev N_Bench_could : List Str := ["self", "at", "row", "count", "body", "other"]
theorem sc_Bench_could : FnScope N_Bench_could ["self", "at", "row"] (fnScope s_Bench_could) := ⟨rfl, rfl, rfl, by decide +kernel, rfl, by decide +kernel, by decide +kernel⟩
def spCould (K : PySem.W.Frag) (CM CB : Addr) : Sp := sp3 fun x y z H Q => ∃ k b m a t r, ∃ (c n : Nat) (rows : List (List Nat)) (row row2 : List Nat), x = .ref b ∧ y = .int 0 ∧ z = .ref a ∧ BenchAt k K CM CB H b m c rows [.ref t] ∧ SqT K H t [.int (n : Nat), .ref r] ∧ SqT K H r (nv row) ∧
  MW c rows ∧ RowAt K H a c row2 ∧ RowAt K H r c row ∧ ∀ H', Ex H H' → Q (.bl (decide (pw (chOf rows row) n = pw (chOf rows row2) n))) H'
theorem c_Bench_could {CM CB : Addr} (d : MetB K CB "could" "Bench.could" s_Bench_could ["self", "at", "row"]) (T : Mx K mg CM) (B : Bx K mg CB) (Z : Zb mg) (c_is_index : Cal P w K mg base 3 "is_index" spIndex [])
    (c_change_of : Cal P w K mg base 5 "change_of" (spChange K CM) []) (c_raised : Cal P w K mg base 2 "raised" (spRaised K) []) : Met P w K mg base 6 CB "could" (spCould K CM CB) [] := by
  refine met_of d sc_Bench_could len3 fun vs0 H Q E h f0 cdv A outer s E' hr => ?_
  obtain ⟨x, y, z, rfl, k, b, m, a, t, r, c, n, rows, row, row2, rfl, rfl, rfl, hB, ht, hr1, hw, ha, hrow, q⟩ := h
  obtain ⟨dx, fs, pr, pa, ys, hb, hf, hpr, hpa, hy, hM, nb⟩ := id hB
  have nz := hw.nz
  have ok1 := chOf_ok hw row hrow.lt
  have ok2 := chOf_ok hw row2 ha.lt
  refine ⟨_, (pss_cons (ps_if (pt_not (pt_val (pe_c c_is_index hr (by decide) (by rfl) (pa_cons (pv 1) (pa_cons (pe_callB (call_lenK K) (by rfl) Z.len (by decide +kernel) (pa_cons (pe_fldK K rfl (pv 0) rfl) pa_nil)) pa_nil)))))
        (pss_one ps_never)
        pss_nil)
      (pss_cons (ps_asg (pe_ix (ix_tupK K) (pe_fldK K rfl (pv 0) rfl) (pv 1) (fun _ _ => rfl)) (pg_tupK K rfl 2 rfl (pgs_cons (pg_name (i := 3) sc_Bench_could.nd rfl (Or.inl rfl)) (pgs_cons (pg_name (i := 4) sc_Bench_could.nd rfl (Or.inl rfl)) pgs_nil))))
      (pss_cons (ps_set (i := 5) sc_Bench_could.nd rfl (Or.inl rfl) (pe_c c_change_of hr (by decide) (by rfl) (pa_cons (pe_fldK K rfl (pv 0) rfl) (pa_cons (pv 2) pa_nil))))
      (pss_one (ps_ret (pe_cmpR (op_eqK K rfl hr.units) (pe_c c_raised hr (by decide) (by rfl) (pa_cons (pe_c c_change_of hr (by decide) (by rfl) (pa_cons (pe_fldK K rfl (pv 0) rfl) (pa_cons (pv 4) pa_nil))) (pa_cons (pv 3) pa_nil))) (pe_c c_raised hr (by decide) (by rfl) (pa_cons (pv 5) (pa_cons (pv 3) pa_nil))) (nomark _))))))), ?_⟩
  refine ⟨_, rfl, _, rfl, b, CB, dx, _, _, rfl, hb, B.cl, B.nP, hf.pr, pr, _, rfl, .inr hpr, _, _, rfl, 0, 1, rfl, rfl, by decide, true, rfl, ?_⟩
  refine ⟨_, rfl, b, CB, dx, _, _, rfl, hb, B.cl, B.nP, hf.pr, _, rfl, pr, _, 0, _, rfl, rfl, hpr, atI_nat (j := 0) rfl, t, _, rfl, ht, rfl, _, _, rfl, _, _, rfl, rfl, ?_⟩
  refine ⟨_, rfl, b, CB, dx, _, _, rfl, hb, B.cl, B.nM, hf.m, _, rfl, _, _, rfl, m, a, c, rows, row2, rfl, rfl, hM, hw, ha.at_, ha.lt, ha.few, fun p1 H1 e1 hp1 => ?_⟩
  refine ⟨_, rfl, b, CB, dx, _, _, rfl, e1 _ _ hb, B.cl, B.nM, hf.m, _, rfl, _, _, rfl, m, r, c, rows, row, rfl, rfl, hM.ex e1, hw, (hrow.ex e1).at_, hrow.lt, hrow.few, fun p2 H2 e2 hp2 => ?_⟩
  refine ⟨_, rfl, _, _, rfl, p2, _, n, rfl, rfl, hp2, ok1.2, by omega, fun p3 H3 e3 hp3 => ?_⟩
  refine ⟨_, rfl, _, rfl, _, _, rfl, p1, _, n, rfl, rfl, ex_t e3 (ex_t e2 hp1), ok2.2, by omega, fun p4 H4 e4 hp4 => ?_⟩
  exact rdEqT (ex_t e4 hp3) hp4 (q _ (((e1.trans e2).trans e3).trans e4))
end
end Bf
namespace Bf
open PySem PySem.Spec PyProof.Rows L2 RZ PpSet
open C8 (Cal Met Mak Def cal0 met0 mak0 pe_c pe_mk pe_mt pe_mt0 fnScope fnBody InsC call_isC tCut pss_cut)
open Evl (Ex ex_l ex_t ex_rd fresh_back sz_of sz_lt)
section
variable {P : Program} {w : World} {K : PySem.W.Frag} {mg : Str → Option Value} {base : Heap}
/-- a method whose errors leave it -/
structure MetX (P : Program) (w : World) (K : PySem.W.Frag) (mg : Str → Option Value) (base : Heap) (k : Nat) (C : Addr) (m : Str) (sp : Sp) : Prop where
  ex : ∃ (f : Addr) (fd : FuncData) (ps : List Str), Cls K C ∧ Meth K C m f ∧ FnOk P w K mg base (L2.CX P w) k f fd ps sp ∧ Binds K fd ps []
theorem metx_of {N ps : List Str} {C : Addr} {m qual : Str} {st : Stmt} {k : Nat} {sp : Sp} (d : MetB K C m qual st ps) (S : FnScope N ps (fnScope st)) (len : ∀ vs H Q E, sp vs H Q E → vs.length = ps.length)
    (body : ∀ vs H Q E, sp vs H Q E → ∀ (f : Addr) (cdv : Value) (A : Around) (outer : List Env) (s : Shared), Room k (A.deeper (envOfC qual (fnScope st) s.heap.objs.size f cdv)) →
      ∃ t, PSs (cxOf (L2.CX P w) P w K mg base N qual (fnScope st) f cdv A outer s H E) (fnBody st) t ∧ t { nx := fun _ H' => Q .non H', rt := Q } (start N vs) H) : MetX P w K mg base (k + 1) C m sp := by
  obtain ⟨f, fd, c, me, F, b⟩ := d.ex
  obtain ⟨oc, od, dV, kV, doc, pm, an, cdv, ct, osl, rfl, lk, hcd⟩ := F.ex
  exact ⟨f, _, ps, c, me, fn_of lk hcd S len fun A outer s H vs Q E hr h => body vs H Q E h f cdv A outer s hr, b⟩
/-- o.m(e, ..) in a try's body -/
def tMtX (C : Addr) (m : Str) (sp : Sp) (W : WX) (to : TE) (t : TA) : TE := fun σ H Q => to σ H fun x H1 => ∃ a dx fs, x = .ref a ∧ H1 a = some (.ins C dx fs) ∧ fs.lookup m = none ∧ t σ H1 fun vs H2 => sp (x :: vs) H2 Q (WE W σ)
theorem pe_mtX {X : Cx} {k j : Nat} {C : Addr} {m : Str} {sp : Sp} {W : WX} {pos apos : Pos} {e o : Expr} {es : List Expr} {to : TE} {t : TA} {pl : Sem Bool} (c : MetX X.prog X.w X.K X.mg X.base k C m sp) (hr : Room j X.A) (hk : k ≤ j) (tk : Takes X W) (ho : PE X o to) (ha : PA X (e :: es) t)
    (hst : starEach (e :: es) X.env = (false, eval e X.env) :: starEach es X.env := by rfl) (hpl : (backTo pos (starEach es X.env)).any (·.1) = false := by rfl)
    (ht : eval (.Call (.Attribute o m apos) (e :: es) [] pos) X.env = (do
      let ov ← eval o X.env
      standAt apos.atName
      let (f, first) ← holding [ov] (getMethod ov m pl)
      callWith pos f first (backTo pos (starEach (e :: es) X.env)) (backToKw pos (keywordEach [] X.env))) := by rfl) : PE X (.Call (.Attribute o m apos) (e :: es) [] pos) (tMtX C m sp W to t) := by
  obtain ⟨f, fd, ps, cl, me, F, b⟩ := c.ex
  refine ⟨fun pins s σ H Q I h => PySem.W.methodCall_KW (pl := pl) (thn (ho.run pins s σ H _ I h) fun u s1 ⟨x, H1, I1, rx, a, dx, fs, ex, ea, l, q⟩ => ?_) ht⟩
  subst ex
  obtain rfl : u = Value.ref a := rx
  refine getmeth_ok I1 ea cl me l (PySem.W.callWith_K (first := [.ref a]) (h₀ := X.base) I.ok.mod.kin me.kp (thn (ha.run pos pins s1 σ H1 _ I1 q) fun us s2 ⟨vs, H2, I2, r, q2⟩ => ⟨I2.kIn, ?_⟩) hst hpl)
  exact run_fnS (us := .ref a :: us) (vs := .ref a :: vs) F (hr.mono hk) b (passAt tk σ) I2 (.cons rfl r) q2
/-- what the text's class Refused must be -/
structure Rx (P : Program) (w : World) (K : PySem.W.Frag) (mg : Str → Option Value) (base : Heap) (CR : Addr) : Prop where
  T : OexC K CR
  mgR : mg "Refused" = some (.ref CR)
  ex : ∃ (fI : Addr) (fd : FuncData), PySem.W.findIn K (.ref CR) "__init__" = some (some (.ref fI)) ∧ PySem.W.typeIn K (.ref fI) = some (.type "function") ∧ Binds K fd ["self", "at"] [] ∧ FnOk P w K mg base (L2.CX P w) 1 fI fd ["self", "at"] (spErr CR "at")
  exm : PySem.W.exmOne K (.ref CR) (.ref CR) = some true
theorem tup_of {a : Addr} {H : Hp} {xs : List V} {Q : VK} (ha : SqL K H a xs ∨ SqT K H a xs) (k : ∀ p H2, Ex H H2 → SqT K H2 p xs → Q (.ref p) H2) : rTupOf K [.ref a] H Q := by
  rcases ha with h | h
  · exact ⟨a, _, rfl, .inl ⟨h, fun l hl => k l _ (ex_new hl) (SqT.of upd_same)⟩⟩
  · exact ⟨a, _, rfl, .inr ⟨h, k a H (Ex.refl _) h⟩⟩
theorem tcb_tup {j : Nat} {σ : L2.St} {a : Addr} {H : Hp} {xs : List V} {Q : VK} (hj : σ[j]? = some (some (.ref a))) (ha : SqL K H a xs ∨ SqT K H a xs) (k : ∀ p H2, Ex H H2 → SqT K H2 p xs → Q (.ref p) H2) : tCB (rTupOf K) (tCons (tVar j) tNil) σ H Q :=
  ⟨_, hj, tup_of ha k⟩
abbrev s_Bench_exchange : Stmt := inClass (topS 35) 7
abbrev N_Bench_exchange : List Str := ["self", "at", "row", "loop"]
theorem sc_Bench_exchange : FnScope N_Bench_exchange ["self", "at", "row"] (fnScope s_Bench_exchange) := ⟨rfl, rfl, rfl, by decide +kernel, rfl, by decide +kernel, by decide +kernel⟩
def spExch (K : PySem.W.Frag) (CM CB CR : Addr) : Sp := fun vs H Q E => ∃ b a, vs = [.ref b, .int 0, .ref a] ∧ ∃ k m t r, ∃ (c n : Nat) (rows : List (List Nat)) (row row2 : List Nat), BenchAt k K CM CB H b m c rows [.ref t] ∧ k ≤ 100 ∧ SqT K H t [.int (n : Nat), .ref r] ∧ SqT K H r (nv row) ∧
  MW c rows ∧ RowAt K H a c row2 ∧ RowAt K H r c row ∧ (pw (chOf rows row) n ≠ pw (chOf rows row2) n → ∀ d H', Ex H H' → E (.ref CR) d H') ∧
  (pw (chOf rows row) n = pw (chOf rows row2) n → ∀ H' t2 r2, ExB b H H' → BenchAt (k + 2) K CM CB H' b m c rows [.ref t2] → SqT K H' t2 [.int (n : Nat), .ref r2] → SqT K H' r2 (nv row2) → Q .non H')
theorem c_Bench_exchange {CM CB CR : Addr} (d : MetB K CB "exchange" "Bench.exchange" s_Bench_exchange ["self", "at", "row"]) (T : Mx K mg CM) (B : Bx K mg CB) (R : Rx P w K mg base CR) (Z : Zb mg)
    (c_Bench_could : Met P w K mg base 6 CB "could" (spCould K CM CB) []) (c_Bench_turn : Met P w K mg base 1 CB "turn" (spTurn K CM CB) []) : MetX P w K mg base 7 CB "exchange" (spExch K CM CB CR) := by
  obtain ⟨fI, fdI, iC, tI, bI, FI⟩ := R.ex
  refine metx_of d sc_Bench_exchange (fun vs H Q E h => by obtain ⟨b, a, rfl, _⟩ := h; rfl) fun vs0 H Q E h f0 cdv A outer s hr => ?_
  obtain ⟨b, a, rfl, k, m, t, r, c, n, rows, row, row2, hB, hk, ht, hr1, hw, ha, hrow, qE, q⟩ := h
  obtain ⟨dx, fs, pr, pa, ys, hb, hf, hpr, hpa, hy, hM, nb⟩ := id hB
  refine ⟨_, (pss_cons (ps_if (pt_not (pt_val (pe_mt c_Bench_could hr (by decide) (pv 0) (pa_cons (pv 1) (pa_cons (pv 2) pa_nil)))))
        (pss_one (ps_raise rfl (takes_of rfl rfl rfl rfl) (pmk_oex R.T iC tI FI (hr.mono (by decide)) bI .nil passL rfl R.mgR (pa_cons pe_int pa_nil))))
        pss_nil)
      (pss_cons (ps_set (i := 3) sc_Bench_exchange.nd rfl (Or.inl rfl) (pe_tup (pa_cons (pe_ix (ix_tupK K) (pe_ix (ix_tupK K) (pe_fldK K rfl (pv 0) rfl) (pv 1) (fun _ _ => rfl)) pe_int (fun _ _ => rfl)) (pa_cons (pe_callTy (call_tupK K) (by rfl) Z.tuple_ (by decide +kernel) (pa_cons (pv 2) pa_nil)) pa_nil))))
      (pss_one (ps_expr (pe_mt c_Bench_turn hr (by decide) (pv 0) (pa_cons (pe_tup (StX.pa_star (pe_slice (sl_tupK K) (pe_fldK K rfl (pv 0) rfl) po_none (po_some (pv 1))) (pa_cons (pv 3) (StX.pa_star (pe_slice (sl_tupK K) (pe_fldK K rfl (pv 0) rfl) (po_some (pe_op on_add (pv 1) pe_int)) po_none) pa_nil)))) pa_nil)))))), ?_⟩
  refine ⟨_, rfl, b, dx, _, rfl, hb, hf.no _ (by decide +kernel) (by decide +kernel) (by decide +kernel), _, rfl, _, rfl, _, _, _, rfl, k, b, m, a, t, r, c, n, rows, row, row2, rfl, rfl, rfl, hB, ht, hr1, hw, ha, hrow, fun H1 e1 => ⟨_, rfl, ?_⟩⟩
  by_cases hag : pw (chOf rows row) n = pw (chOf rows row2) n
  · rw [decide_eq_true hag]
    have hb1 := e1 _ _ hb
    refine ⟨_, rfl, b, CB, dx, _, _, rfl, hb1, B.cl, B.nP, hf.pr, _, rfl, pr, _, 0, _, rfl, rfl, ex_t e1 hpr, atI_nat (j := 0) rfl, t, _, 0, _, rfl, rfl, ex_t e1 ht, atI_nat (j := 0) rfl, ?_⟩
    refine tcb_tup rfl (ha.ex e1).at_ fun r2 H2 e2 hr2 => ?_
    have e12 := e1.trans e2
    refine ⟨by show 2 ≤ sizeLine; decide, fun lp hlp => ?_⟩
    have e3 := e12.trans (ex_new (o := .tup [.int (n : Nat), .ref r2]) hlp)
    have hl3 : SqT K (upd H2 lp (.tup [.int (n : Nat), .ref r2])) lp [.int (n : Nat), .ref r2] := SqT.of upd_same
    have hr3 := ex_t (ex_new (o := .tup [.int (n : Nat), .ref r2]) hlp) hr2
    generalize (upd H2 lp (.tup [.int (n : Nat), .ref r2])) = H3 at e3 hl3 hr3 ⊢
    have hb3 := e3 _ _ hb
    refine ⟨_, rfl, b, dx, _, rfl, hb3, hf.no _ (by decide +kernel) (by decide +kernel) (by decide +kernel), ?_⟩
    refine ⟨_, rfl, b, CB, dx, _, _, rfl, hb3, B.cl, B.nP, hf.pr, _, rfl, _, rfl, pr, [.ref t], rfl, ex_t e3 hpr, fun hw => absurd hw.2 (by show ¬ HT.sIx 1 1 (some 0) = 1; decide), fun _ p1 hp1 => ?_⟩
    have hc1 : cutV [V.ref t] none (some 0) = [] := rfl
    rw [hc1]
    have x4 := ex_new (o := .tup []) hp1
    have e4 := e3.trans x4
    have hp4 : SqT K (upd H3 p1 (.tup [])) p1 [] := SqT.of upd_same
    have hl4 := ex_t x4 hl3
    have hr4 := ex_t x4 hr3
    generalize (upd H3 p1 (.tup [])) = H4 at e4 hp4 hl4 hr4 ⊢
    have hb4 := e4 _ _ hb
    refine ⟨p1, [], rfl, .inl hp4, _, rfl, _, rfl, b, CB, dx, _, _, rfl, hb4, B.cl, B.nP, hf.pr, _, rfl, 0, 1, rfl, rfl, _, rfl, pr, [.ref t], rfl, ex_t e4 hpr, fun hw => absurd hw.1 (by show ¬ HT.sIx 1 0 (some 1) = 0; decide), fun _ p2 hp2 => ?_⟩
    have hc2 : cutV [V.ref t] (some ((0 + 1 : Nat) : Int)) none = [] := rfl
    rw [hc2]
    have x5 := ex_new (o := .tup []) hp2
    have e5 := e4.trans x5
    have hp5 : SqT K (upd H4 p2 (.tup [])) p2 [] := SqT.of upd_same
    have hl5 := ex_t x5 hl4
    have hr5 := ex_t x5 hr4
    generalize (upd H4 p2 (.tup [])) = H5 at e5 hp5 hl5 hr5 ⊢
    refine ⟨p2, [], rfl, .inl hp5, by show 1 ≤ sizeLine; decide, fun p3 hp3 => ?_⟩
    have x6 := ex_new (o := .tup [.ref lp]) hp3
    have e6 := e5.trans x6
    have hb6 := e6 _ _ hb
    refine ⟨_, _, rfl, k, b, m, c, rows, [.ref t], p3, [.ref lp], rfl, rfl, hB.ex e6, by omega, SqT.of upd_same, fun H7 b7 hB7 => ?_⟩
    exact q hag H7 lp r2 ((exB_of e6).trans b7) hB7 ((exB_ins hb6 b7).1 (ex_t x6 hl5)) ((exB_ins hb6 b7).1 (ex_t x6 hr5))
  · rw [decide_eq_false hag]
    refine ⟨by show 1 ≤ 1000; decide, fun e he => ⟨e, _, rfl, upd_same, fun d hd hne => ⟨rfl, d, [("at", V.int 1)], upd_same, ?_, ?_, ?_⟩⟩⟩
    · rw [upd_ne hne, upd_same]
    · rw [upd_ne hne] at hd; exact hd
    · refine qE hag _ _ fun a o ha => ?_
      have h1 := e1 a o ha
      have n1 : a ≠ e := ne_of_none h1 he
      have n2 : a ≠ d := by
        rw [upd_ne hne] at hd
        exact ne_of_none h1 hd
      rw [upd_ne n2, del_ne n1, upd_ne n1, upd_ne n2, upd_ne n1]
      exact h1
end
end Bf
namespace Bf
open PySem PySem.Spec PyProof.Rows L2 RZ PpSet
open C8 (Cal Met Mak Def cal0 met0 mak0 pe_c pe_mk pe_mt pe_mt0 fnScope fnBody InsC call_isC tCut pss_cut)
open Evl (Ex ex_l ex_t ex_rd fresh_back sz_of sz_lt)
section
variable {P : Program} {w : World} {K : PySem.W.Frag} {mg : Str → Option Value} {base : Heap}
def nDat (n : Nat) (xs : List Nat) : PyData := .tuple [.int (n : Int), .tuple (nD xs)]
theorem nDat_sh (n : Nat) (xs : List Nat) : SeqAt.shaped (nDat n xs) = true := by
  show ((PyData.canLay0 (.int (n : Int)) && (PyData.canLay0 (.tuple (nD xs)) && PyData.canLayAll0 [])) && decide (max (PyData.depth (.int (n : Int))) (max (PyData.depth (.tuple (nD xs))) (PyData.depthAll [])) + 1 ≤ 64)) = true
  have h1 : PyData.canLay0 (.tuple (nD xs)) = true := canN xs
  have h2 : PyData.depth (.tuple (nD xs)) = 1 := by
    show PyData.depthAll (nD xs) + 1 = 1
    rw [depN]
  rw [h1, h2]
  rfl
theorem nDat_eq (n : Nat) (xs : List Nat) : PyData.eqv (nDat n xs) (nDat n xs) = true := by
  show ((n : Int) == (n : Int) && (PyData.eqvAll (nD xs) (nD xs) && true)) = true
  rw [eqN]
  simp
theorem rdEqP {H : Hp} {a b r r' : Addr} {n : Nat} {xs : List Nat} {Q : VK} (ha : SqT K H a [.int (n : Nat), .ref r]) (hr : SqT K H r (nv xs)) (hb : SqT K H b [.int (n : Nat), .ref r']) (hr' : SqT K H r' (nv xs)) (q : Q (.bl true) H) : rEqD K (.ref a) (.ref b) H Q :=
  ⟨nDat n xs, nDat n xs, .tup ha (.cons (.int _) (.cons (.tup hr (dpN xs)) .nil)), .tup hb (.cons (.int _) (.cons (.tup hr' (dpN xs)) .nil)), nDat_sh n xs, nDat_sh n xs, by rw [nDat_eq]; exact q⟩
abbrev s_law_let : Stmt := topS 78
abbrev N_law_let : List Str := ["_law_bench", "_law_count", "_law_one", "_law_other"]
theorem sc_law_let : FnScope N_law_let ["_law_bench", "_law_count", "_law_one", "_law_other"] (fnScope s_law_let) := ⟨rfl, rfl, rfl, by decide +kernel, rfl, by decide +kernel, by decide +kernel⟩
def spLet (K : PySem.W.Frag) (CM CB : Addr) : Sp := sp4 fun x y z u H Q => ∃ b m a a2, ∃ (c n : Nat) (rows : List (List Nat)) (row row2 : List Nat), x = .ref b ∧ y = .int n ∧ z = .ref a ∧ u = .ref a2 ∧ BenchAt 3 K CM CB H b m c rows [] ∧ MW c rows ∧ RowAt K H a c row ∧ RowAt K H a2 c row2 ∧
  ∀ H', ExB b H H' → Q (.bl (decide (pw (chOf rows row) n = pw (chOf rows row2) n))) H'
theorem c_law_let {CM CB CR : Addr} (d : DefB K mg "_law_let" s_law_let ["_law_bench", "_law_count", "_law_one", "_law_other"]) (T : Mx K mg CM) (B : Bx K mg CB) (R : Rx P w K mg base CR) (Z : Zb mg)
    (c_Bench_put : Met P w K mg base 5 CB "put" (spPut K CM CB) []) (c_Bench_exchange : MetX P w K mg base 7 CB "exchange" (spExch K CM CB CR)) (c_Bench_program : Met P w K mg base 1 CB "program" (spProgram K CM CB) []) :
    Cal P w K mg base 8 "_law_let" (spLet K CM CB) [] := by
  refine cal_of d sc_law_let len4 fun vs0 H Q E h f0 cdv A outer s E' hr => ?_
  obtain ⟨x, y, z, u, rfl, b, m, a, a2, c, n, rows, row, row2, rfl, rfl, rfl, rfl, hB, hw, h1, h2, q⟩ := h
  obtain ⟨dx, fs, pr, pa, ys, hb, hf, hpr, hpa, hy, hM, nb⟩ := id hB
  refine ⟨_, (pss_cons (ps_expr (pe_mt c_Bench_put hr (by decide) (pv 0) (pa_cons pe_int (pa_cons (pv 1) (pa_cons (pv 2) pa_nil)))))
      (pss_cons (ps_try_only (tb := fun W => tDrop (tMtX CB "exchange" (spExch K CM CB CR) W (tVar 0) (tCons (tC (.int 0)) (tCons (tVar 3) tNil)))) (ts := fun _ _ _ => tRet (tC (.bl false))) (Wout := fun _ _ _ _ => False) rfl rfl ⟨rfl, by decide, Or.inl R.mgR⟩ takes0 (fun W pn xe tk _ => pss_one (ps_expr (pe_mtX c_Bench_exchange hr (by decide) tk (pv 0) (pa_cons pe_int (pa_cons (pv 3) pa_nil))))) (fun _ _ _ _ _ _ _ => pss_one (ps_ret pe_bl)))
      (pss_one (ps_ret (pe_cmpR (op_eqK K rfl hr.units) (pe_ix (ix_tupK K) (pe_mt0 c_Bench_program hr (by decide) (pv 0)) pe_int (fun _ _ => rfl)) (pe_tup (pa_cons (pv 1) (pa_cons (pe_callTy (call_tupK K) (by rfl) Z.tuple_ (by decide +kernel) (pa_cons (pv 3) pa_nil)) pa_nil))) (nomark _)))))), ?_⟩
  refine ⟨_, rfl, b, dx, _, rfl, hb, hf.no _ (by decide +kernel) (by decide +kernel) (by decide +kernel), _, rfl, _, rfl, _, _, _, _, rfl, 3, b, m, a, c, n, rows, row, rfl, rfl, rfl, rfl, hB, by decide, h1, fun H1 t r b1 hB1 ht1 hr1 => ?_⟩
  have h11 := h1.exB hb b1
  have h21 := h2.exB hb b1
  obtain ⟨dx1, fs1, pr1, pa1, ys1, hb1, hf1, _⟩ := id hB1
  have hrow : RowAt K H1 r c row := ⟨.inr hr1, h1.lt, h1.few⟩
  refine ⟨_, rfl, b, dx1, _, rfl, hb1, hf1.no _ (by decide +kernel) (by decide +kernel) (by decide +kernel), _, rfl, b, a2, rfl, 5, m, t, r, c, n, rows, row, row2, hB1, by decide, ht1, hr1, hw, h21, hrow, fun hne d' H' x' => ?_, fun heq H2 t2 r2 b2 hB2 ht2 hr2 => ?_⟩
  · refine ⟨true, R.exm, fun _ a0 _ => ?_, fun q => Bool.noConfusion q⟩
    have := q H' (b1.trans (exB_of x'))
    rw [decide_eq_false hne] at this
    exact this
  · have h22 := h21.exB hb1 b2
    obtain ⟨dx2, fs2, pr2, pa2, ys2, hb2, hf2, _⟩ := id hB2
    refine ⟨_, rfl, b, dx2, _, rfl, hb2, hf2.no _ (by decide +kernel) (by decide +kernel) (by decide +kernel), _, rfl, 7, b, m, c, rows, _, rfl, hB2, fun pp hpp => ?_⟩
    refine ⟨pp, _, 0, _, rfl, rfl, hpp, atI_nat (j := 0) rfl, _, rfl, tcb_tup rfl h22.at_ fun r3 H3 e3 hr3 => ⟨by show 2 ≤ sizeLine; decide, fun tp htp => ?_⟩⟩
    have x4 := ex_new (o := .tup [.int (n : Nat), .ref r3]) htp
    refine rdEqP (ex_t x4 (ex_t e3 ht2)) (ex_t x4 (ex_t e3 hr2)) (SqT.of upd_same) (ex_t x4 hr3) ?_
    have := q (upd H3 tp (.tup [.int (n : Nat), .ref r3])) ((b1.trans b2).trans (exB_of (e3.trans x4)))
    rw [decide_eq_true heq] at this
    exact this
end
end Bf
namespace Bf
open PySem PySem.Spec PyProof.Rows L2 RZ PpSet
open C8 (Cal Met Mak Def cal0 met0 mak0 pe_c pe_mk pe_mt pe_mt0 fnScope fnBody InsC call_isC tCut pss_cut)
open Evl (Ex ex_l ex_t ex_rd fresh_back sz_of sz_lt)
section
variable {P : Program} {w : World} {K : PySem.W.Frag} {mg : Str → Option Value} {base : Heap}
/-! ### deals -/
def ExD (d c : Addr) (H H' : Hp) : Prop := ∀ a o, a ≠ d → a ≠ c → H a = some o → H' a = some o
def Deal (d c : Addr) (H : Hp) : Prop := ∃ (ns : List Nat) (b : Nat), H d = some (.lst [.ref c, .int (b : Nat)]) ∧ H c = some (.lst (nv ns)) ∧ d ≠ c ∧ ns.length ≤ 100
section
variable {H H' H2 : Hp} {d c a l : Addr} {xs : List V} {o : HO}
theorem exD_of (e : Ex H H') : ExD d c H H' := fun a o _ _ h => e a o h
theorem ExD.trans (e : ExD d c H H') (f : ExD d c H' H2) : ExD d c H H2 := fun a o n1 n2 h => f a o n1 n2 (e a o n1 n2 h)
theorem ExD.mut (e : ExD d c H H') (hl : H l = none) : ExD d c H (upd H' l o) := fun a u n1 n2 h => by rw [upd_ne (ne_of_none h hl)]; exact e a u n1 n2 h
theorem ExD.setD (e : ExD d c H H') : ExD d c H (upd H' d o) := fun a u n1 n2 h => by rw [upd_ne n1]; exact e a u n1 n2 h
theorem ExD.setC (e : ExD d c H H') : ExD d c H (upd H' c o) := fun a u n1 n2 h => by rw [upd_ne n2]; exact e a u n1 n2 h
theorem Deal.ne {H : Hp} {d c a : Addr} {u : HO} (h : Deal d c H) (ha : H a = some u) (hn : ∀ z, u ≠ .lst z) : a ≠ d ∧ a ≠ c := by
  obtain ⟨ns, b, h1, h2, _⟩ := h
  exact ⟨ne_of ha h1 (fun z => hn _ z), ne_of ha h2 (fun z => hn _ z)⟩
theorem exD_t (hD : Deal d c H) (e : ExD d c H H') (h : SqT K H a xs) : SqT K H' a xs := by
  rcases h with (h | ⟨u, h⟩) | h
  · exact .inl (.inl (e _ _ (hD.ne h (by intro z q; cases q)).1 (hD.ne h (by intro z q; cases q)).2 h))
  · exact .inl (.inr ⟨u, e _ _ (hD.ne h (by intro z q; cases q)).1 (hD.ne h (by intro z q; cases q)).2 h⟩)
  · exact .inr h
theorem Deal.fresh (hD : Deal d c H) (hl : H l = none) : l ≠ d ∧ l ≠ c := by
  obtain ⟨ns, b, h1, h2, _⟩ := hD
  exact ⟨fun z => (by rw [z, h1] at hl; cases hl), fun z => (by rw [z, h2] at hl; cases hl)⟩
theorem Deal.ex (hD : Deal d c H) (e : Ex H H') : Deal d c H' := let ⟨ns, b, h1, h2, h3⟩ := hD; ⟨ns, b, e _ _ h1, e _ _ h2, h3⟩
theorem Deal.upd (hD : Deal d c H) (n : l ≠ d ∧ l ≠ c) : Deal d c (upd H l o) := let ⟨ns, b, h1, h2, h3⟩ := hD; ⟨ns, b, by rw [upd_ne (Ne.symm n.1)]; exact h1, by rw [upd_ne (Ne.symm n.2)]; exact h2, h3⟩
end
theorem natI {x : Int} (h : 0 ≤ x) : ∃ n : Nat, x = (n : Int) := ⟨x.toNat, by omega⟩
abbrev s_law_draw : Stmt := topS 60
abbrev N_law_draw : List Str := ["_law_script", "_law_salt", "_law_cell", "_law_cells", "_law_blend"]
theorem sc_law_draw : FnScope N_law_draw ["_law_script", "_law_salt"] (fnScope s_law_draw) := ⟨rfl, rfl, rfl, by decide +kernel, rfl, by decide +kernel, by decide +kernel⟩
def spDraw (K : PySem.W.Frag) : Sp := sp2 fun x y H Q => ∃ a, ∃ (ns : List Int) (k : Nat), x = .ref a ∧ y = .int k ∧ SqL K H a (ns.map V.int) ∧ ns.length ≤ 100 ∧ ∀ d c H', Ex H H' → Deal d c H' → Q (.ref d) H'
theorem c_law_draw (d : DefB K mg "_law_draw" s_law_draw ["_law_script", "_law_salt"]) (Z : Zb mg) : Cal P w K mg base 1 "_law_draw" (spDraw K) [] := by
  refine cal_of d sc_law_draw len2 fun vs0 H Q E h f0 cdv A outer s0 E' hr => ?_
  obtain ⟨x, y, rfl, a, ns, k, rfl, rfl, ha, hz, q⟩ := h
  refine ⟨_, (pss_cons (ps_setLc (i := 3) (own := [("_law_cell", 2)]) rfl sc_law_draw.nd rfl rfl (sw_true rfl rfl rfl (by decide +kernel)) (pi_listK K rfl (pe_slice (sl_listK K) (pv 0) po_none (po_some pe_int))) (blkOk_by (own := [("_law_cell", 2)]) (N := N_law_draw) (sc := fnScope s_law_draw) (by decide +kernel)) (fun _ _ _ _ _ => (pg_name (i := 2) sc_law_draw.nd rfl (Or.inl rfl))) (fun _ _ _ _ _ => pts_nil) (fun _ _ _ _ _ => (pe_callB call_abs (by rfl) Z.abs (by decide +kernel) (pa_cons (pe_callTy call_int1 (by rfl) Z.int_ (by decide +kernel) (pa_cons (pv 2) pa_nil)) pa_nil))))
      (pss_cons (ps_set (i := 4) sc_law_draw.nd rfl (Or.inl rfl) (pe_op op_add pe_int (pe_op op_mul pe_int (pv 1))))
      (pss_cons (ps_for PassesOwn.never rfl (pi_listK K rfl (pv 3)) (pg_name (i := 2) sc_law_draw.nd rfl (Or.inl rfl))
        (pss_one (ps_set (i := 4) sc_law_draw.nd rfl (Or.inl rfl) (pe_op op_modN (pe_callTy call_int1 (by rfl) Z.int_ (by decide +kernel) (pa_cons (pe_op op_add (pe_op op_add (pe_op op_mul (pv 4) pe_int) (pe_op op_modN (pv 2) pe_int)) pe_int) pa_nil)) pe_int))))
      (pss_one (ps_ret (pe_lst (pa_cons (pe_revL (pe_lc (own := [("_law_cell", 2)]) rfl sc_law_draw.nd (pi_listK K rfl (pv 3)) (blkOk_by (own := [("_law_cell", 2)]) (N := N_law_draw) (sc := fnScope s_law_draw) (by decide +kernel)) (fun _ _ _ _ _ => (pg_name (i := 2) sc_law_draw.nd rfl (Or.inl rfl))) (fun _ _ _ _ _ => (pts_one (pt_cmpR op_ge (pv 2) (pe_op op_pow pe_int pe_int) (nomark _)))) (fun _ _ _ _ _ => (pv 2)))) (pa_cons (pv 4) pa_nil)))))))), ?_⟩
  have hcut : cutV (ns.map V.int) none (some ((48 : Nat) : Int)) = (ns.take 48).map V.int := by
    unfold cutV
    have e1 : HT.sIx (ns.map V.int).length 0 none = 0 := rfl
    rw [e1, HT.sIx_nat, List.drop_zero, Nat.sub_zero, List.map_take]
    rw [← List.take_take, List.take_of_length_le (Nat.le_refl _)]
  refine ⟨_, rfl, 48, rfl, a, _, rfl, ha, fun p0 hp0 => ?_⟩
  have e0 := ex_new (o := .lst (cutV (ns.map V.int) none (some ((48 : Nat) : Int)))) hp0
  have hp0' : (upd H p0 (.lst (cutV (ns.map V.int) none (some ((48 : Nat) : Int))))) p0 = some (.lst ((ns.take 48).map V.int)) := by rw [upd_same, hcut]
  generalize hms : ns.take 48 = ms at hp0'
  have hml : ms.length ≤ 48 := by rw [← hms, List.length_take]; omega
  refine ⟨p0, rfl, ⟨_, SqL.of hp0'⟩, fun D hD => cmL (fun i acc _ => acc = nv ((ms.take i).map Int.natAbs)) (steady_val _) hD rfl (SqL.of hp0') (by rw [List.length_map]; omega) ?_ ?_⟩
  · intro i x hi acc H2 QF QT e hd p kF kT
    obtain ⟨z, hz2, rfl⟩ : ∃ z, ms[i]? = some z ∧ x = .int z := by
      rw [List.getElem?_map] at hi
      obtain ⟨z, h1, h2⟩ := Option.map_eq_some_iff.mp hi
      exact ⟨z, h1, h2.symm⟩
    refine ⟨rfl, _, rfl, .inl ⟨z, rfl, z, rfl, kT _ _ (Ex.refl _) ?_⟩⟩
    show acc ++ [V.int (if z < 0 then -z else z)] = nv ((ms.take (i + 1)).map Int.natAbs)
    rw [show acc = _ from p, tk hz2, List.map_append, show (if z < 0 then -z else z) = ((z.natAbs : Nat) : Int) by split <;> omega]
    exact (nv_snoc _ _).symm
  intro acc H1 e1 hd p
  have p' : acc = nv ((ms.take (ms.map V.int).length).map Int.natAbs) := p
  rw [List.length_map, List.take_length] at p'
  subst p'
  have hcl : (ms.map Int.natAbs).length ≤ 48 := by rw [List.length_map]; exact hml
  generalize ms.map Int.natAbs = cs at hd hcl
  have e01 := e0.trans e1
  refine ⟨_, rfl, 104729, k, rfl, rfl, .inl ⟨by decide, by decide⟩, 7919, _, rfl, rfl, ?_⟩
  obtain ⟨b0, hb0⟩ := natI (x := 7919 + 104729 * (k : Int)) (by omega)
  dsimp only
  rw [hb0]
  refine ⟨_, rfl, D, rfl, ⟨_, SqL.of hd⟩, for_list (xs := nv cs) (fun i σ H' => ∃ b u : Nat, ∃ v, σ = [some (.ref a), some (.int (k : Nat)), v, some (.ref D), some (.int (b : Nat))] ∧ Ex H H' ∧ Ex H1 H') ⟨b0, 0, none, rfl, e01, Ex.refl _⟩ (fun i σ H' _ z => by obtain ⟨_, _, _, _, _, e⟩ := z; exact SqL.of (e _ _ hd)) ?_ ?_⟩
  · rintro i x σ H2 hi ⟨b, u, v, rfl, e2, e3⟩
    obtain ⟨n, hn, rfl⟩ := nv_at hi
    refine ⟨_, rfl, b, 48271, rfl, rfl, .inr ⟨by decide, by decide⟩, _, rfl, n, 2147483549, rfl, rfl, by show (2147483549 : Int) ≠ 0; decide, _, _, rfl, rfl, _, 11, rfl, rfl, .inl ⟨_, rfl, _, 2147483647, rfl, rfl, by show (2147483647 : Int) ≠ 0; decide, ?_⟩⟩
    obtain ⟨b', hb'⟩ := natI (x := Int.fmod ((b : Int) * 48271 + Int.fmod (n : Int) 2147483549 + 11) 2147483647) (Int.fmod_nonneg_of_pos _ (by decide))
    dsimp only
    rw [hb']
    exact ⟨b', 0, _, rfl, e2, e3⟩
  · rintro σ H2 ⟨b, u, v, rfl, e2, e3⟩
    have hd2 := e3 _ _ hd
    refine ⟨_, rfl, D, rfl, ⟨_, SqL.of hd2⟩, fun D2 hD2 => cmL (fun i acc _ => acc = nv ((cs.take i).filter fun n => decide (1000000000000000000 ≤ n))) (steady_val _) hD2 rfl (SqL.of hd2) (by rw [nv_len]; omega) ?_ ?_⟩
    · intro i x hi acc H3 QF QT e hd3 p kF kT
      obtain ⟨n, hn, rfl⟩ := nv_at hi
      refine ⟨rfl, _, rfl, 10, 18, rfl, rfl, ⟨by decide, by decide, by decide⟩, n, _, rfl, rfl, _, rfl, ?_⟩
      have ed : decide ((n : Int) ≥ (10 : Int) ^ (18 : Int).toNat) = decide (1000000000000000000 ≤ n) := decide_eq_decide.mpr (by
        have : (10 : Int) ^ (18 : Int).toNat = 1000000000000000000 := by decide
        rw [this]
        omega)
      rw [ed]
      by_cases h0 : 1000000000000000000 ≤ n
      · rw [decide_eq_true h0]
        refine ⟨_, rfl, kT _ _ (Ex.refl _) ?_⟩
        show acc ++ [V.int (n : Nat)] = nv ((cs.take (i + 1)).filter fun n => decide (1000000000000000000 ≤ n))
        rw [show acc = _ from p, tk_yes hn (decide_eq_true h0), ← nv_snoc]
      · rw [decide_eq_false h0]
        refine kF _ (Ex.refl _) ?_
        show acc = nv ((cs.take (i + 1)).filter fun n => decide (1000000000000000000 ≤ n))
        rw [show acc = _ from p, tk_no hn (decide_eq_false h0)]
    · intro acc H3 e4 hd4 p
      have p' : acc = nv ((cs.take (nv cs).length).filter fun n => decide (1000000000000000000 ≤ n)) := p
      subst p'
      have hfl : ((cs.take (nv cs).length).filter fun n => decide (1000000000000000000 ≤ n)).length ≤ 100 := Nat.le_trans (List.length_filter_le _ _) (by rw [List.length_take]; omega)
      generalize (cs.take (nv cs).length).filter (fun n => decide (1000000000000000000 ≤ n)) = fs at hd4 hfl
      refine ⟨D2, _, rfl, SqL.of hd4, fun pc hpc => ?_⟩
      have hpc' : (upd H3 pc (.lst (nv fs).reverse)) pc = some (.lst (nv fs.reverse)) := by
        rw [upd_same]
        show some (HO.lst (List.map _ _).reverse) = some (HO.lst (List.map _ _))
        rw [List.map_reverse]
      have x5 := ex_new (o := .lst (nv fs).reverse) hpc
      generalize (upd H3 pc (.lst (nv fs).reverse)) = H5 at hpc' x5 ⊢
      refine ⟨_, rfl, by show 2 ≤ sizeLine; decide, fun pd hpd => q pd pc _ (((e2.trans e4).trans x5).trans (ex_new hpd)) ⟨fs.reverse, b, upd_same, ?_, ?_, by rw [List.length_reverse]; exact hfl⟩⟩
      · exact ex_new hpd _ _ hpc'
      · intro z
        rw [z, hpc'] at hpd
        cases hpd
abbrev s_law_any : Stmt := topS 61
abbrev N_law_any : List Str := ["_law_deal", "_law_bound", "_law_rest"]
theorem sc_law_any : FnScope N_law_any ["_law_deal", "_law_bound"] (fnScope s_law_any) := ⟨rfl, rfl, rfl, by decide +kernel, rfl, by decide +kernel, by decide +kernel⟩
def spAny : Sp := sp2 fun x y H Q => ∃ d c, ∃ k : Nat, x = .ref d ∧ y = .int k ∧ 0 < k ∧ k < 1073741824 ∧ Deal d c H ∧ ∀ (v : Nat) H', v < k → ExD d c H H' → Deal d c H' → Q (.int v) H'
theorem c_law_any (d : DefB K mg "_law_any" s_law_any ["_law_deal", "_law_bound"]) (Z : Zb mg) : Cal P w K mg base 1 "_law_any" spAny [] := by
  refine cal_of d sc_law_any len2 fun vs0 H Q E h f0 cdv A outer s0 E' hr => ?_
  obtain ⟨x, y, rfl, d, c, k, rfl, rfl, hk, hkz, hD, q⟩ := h
  refine ⟨_, (pss_cut (ps_while PassesOwn.never (PW.pt (pw_and (pt_cmpR (op_neK K rfl hr.units) (pe_ix (ix_listK K) (pv 0) pe_int (fun _ _ => rfl)) (pe_lst pa_nil) (nomark _)) (pw_and1 (pt_cmpR on_eq (pe_ix (ix_listK K) (pe_ix (ix_listK K) (pv 0) pe_int (fun _ _ => rfl)) (pe_un un_neg pe_int) (fun _ _ => rfl)) pe_int (nomark _)))))
        (pss_one (ps_expr (pe_bm0 PySem.F.plainAttrs_list PySem.F.slot_list_pop PySem.F.type_list_pop mt_pop (pe_ix (ix_listK K) (pv 0) pe_int (fun _ _ => rfl))))))
      (pss_cons (ps_if (pt_cmpR (op_neK K rfl hr.units) (pe_ix (ix_listK K) (pv 0) pe_int (fun _ _ => rfl)) (pe_lst pa_nil) (nomark _))
        (pss_cons (ps_set (i := 2) sc_law_any.nd rfl (Or.inl rfl) (pe_callTy call_int1 (by rfl) Z.int_ (by decide +kernel) (pa_cons (pe_bm0 PySem.F.plainAttrs_list PySem.F.slot_list_pop PySem.F.type_list_pop mt_pop (pe_ix (ix_listK K) (pv 0) pe_int (fun _ _ => rfl))) pa_nil)))
        (pss_cons (ps_expr (pe_bm PySem.F.plainAttrs_list PySem.F.slot_list_append PySem.F.type_list_append mt_append (pe_ix (ix_listK K) (pv 0) pe_int (fun _ _ => rfl)) (pa_cons (pe_op on_fdiv (pv 2) (pv 1)) pa_nil)))
        (pss_one (ps_ret (pe_op on_mod (pv 2) (pv 1))))))
        pss_nil)
      (pss_cons (ps_asg (pe_op on_mod (pe_callTy call_int1 (by rfl) Z.int_ (by decide +kernel) (pa_cons (pe_op on_add (pe_op on_mul (pe_ix (ix_listK K) (pv 0) pe_int (fun _ _ => rfl)) pe_int) pe_int) pa_nil)) pe_int) (pg_sub (pv 0) pe_int set_list))
      (pss_one (ps_ret (pe_op on_mod (pe_callTy call_int1 (by rfl) Z.int_ (by decide +kernel) (pa_cons (pe_op on_fdiv (pe_ix (ix_listK K) (pv 0) pe_int (fun _ _ => rfl)) pe_int) pa_nil)) (pv 1))))))), ?_⟩
  obtain ⟨ns0, b0, hd0, hc0, ndc, hl0⟩ := id hD
  refine ⟨fun σ H' => ∃ ns b, σ = [some (.ref d), some (.int (k : Nat)), none] ∧ ExD d c H H' ∧ H' d = some (.lst [.ref c, .int (b : Nat)]) ∧ H' c = some (.lst (nv ns)) ∧ ns.length ≤ 100, ?_, ?_⟩
  · refine ⟨fun μ σ H' => ∃ ns b, μ = ns.length ∧ σ = [some (.ref d), some (.int (k : Nat)), none] ∧ ExD d c H H' ∧ H' d = some (.lst [.ref c, .int (b : Nat)]) ∧ H' c = some (.lst (nv ns)) ∧ ns.length ≤ 100, ⟨ns0.length, ns0, b0, rfl, rfl, exD_of (Ex.refl _), hd0, hc0, hl0⟩, ?_⟩
    rintro μ σ H1 ⟨ns, b, rfl, rfl, e1, hd1, hc1, hl1⟩
    refine ⟨_, rfl, d, _, 0, _, rfl, rfl, SqL.of hd1, atI_nat (j := 0) rfl, by show 0 ≤ sizeLine; decide, fun p hp => rdNeL (ys := []) (SqL.of (ex_new hp _ _ hc1)) (SqL.of upd_same) ⟨_, rfl, ?_⟩⟩
    have x2 := ex_new (o := .lst []) hp
    have hd2 := x2 _ _ hd1
    have hc2 := x2 _ _ hc1
    have e2 := e1.trans (exD_of x2)
    generalize (upd H1 p (.lst [])) = H2 at e2 hd2 hc2 ⊢
    rcases List.eq_nil_or_concat ns with rfl | ⟨ns1, z, rfl⟩
    · exact ⟨[], b, rfl, e2, hd2, hc2, Nat.zero_le _⟩
    · rw [List.concat_eq_append] at hc2 hl1 ⊢
      rw [List.length_append, List.length_singleton] at hl1
      have hcl : SqL K H2 c (nv ns1 ++ [.int (z : Nat)]) := by rw [← nv_snoc]; exact SqL.of hc2
      rw [decide_eq_false (show ¬ ns1 ++ [z] = [] by simp)]
      refine ⟨_, rfl, d, _, 0, _, rfl, rfl, SqL.of hd2, atI_nat (j := 0) rfl, 1, rfl, c, _, -1, _, rfl, rfl, hcl, atI_last _ _, z, 0, rfl, rfl, _, rfl, ?_⟩
      by_cases hz : z = 0
      · rw [decide_eq_true hz]
        refine ⟨_, fun σ' H' h => h, ?_⟩
        refine ⟨_, rfl, d, _, 0, _, rfl, rfl, SqL.of hd2, atI_nat (j := 0) rfl, .inl ⟨rfl, _, SqL.of hc2⟩, c, nv ns1 ++ [.int (z : Nat)], .int (z : Nat), rfl, rfl, by rw [← nv_snoc]; exact hc2, ?_, ?_⟩
        · rw [List.length_append, List.length_singleton, Nat.add_sub_cancel, List.getElem?_append_right (Nat.le_refl _), Nat.sub_self]
          rfl
        · refine ⟨ns1.length, by rw [List.length_append, List.length_singleton]; omega, ns1, b, rfl, rfl, e2.setC, by rw [upd_ne ndc]; exact hd2, by rw [upd_same, List.dropLast_concat], by omega⟩
      · rw [decide_eq_false hz]
        exact ⟨ns1 ++ [z], b, rfl, e2, hd2, hc2, by rw [List.length_append, List.length_singleton]; omega⟩
  · rintro σ H1 ⟨ns, b, rfl, e1, hd1, hc1, hl1⟩
    refine ⟨_, rfl, d, _, 0, _, rfl, rfl, SqL.of hd1, atI_nat (j := 0) rfl, by show 0 ≤ sizeLine; decide, fun p hp => rdNeL (ys := []) (SqL.of (ex_new hp _ _ hc1)) (SqL.of upd_same) ⟨_, rfl, ?_⟩⟩
    have x2 := ex_new (o := .lst []) hp
    have hd2 := x2 _ _ hd1
    have hc2 := x2 _ _ hc1
    have e2 := e1.trans (exD_of x2)
    generalize (upd H1 p (.lst [])) = H2 at e2 hd2 hc2 ⊢
    rcases List.eq_nil_or_concat ns with rfl | ⟨ns1, z, rfl⟩
    · -- the blend
      refine ⟨_, rfl, d, _, 1, _, rfl, rfl, SqL.of hd2, atI_nat (j := 1) rfl, b, 40693, rfl, rfl, .inr (by decide), _, 71, rfl, rfl, .inl ⟨_, rfl, _, 2147483647, rfl, rfl, by show 0 < 2147483647; decide, ?_⟩⟩
      refine ⟨_, rfl, d, _, 1, 1, rfl, rfl, hd2, rfl, ?_⟩
      have hd3 : (upd H2 d (.lst [.ref c, .int ((b * 40693 + 71) % 2147483647 : Nat)])) d = some (.lst [.ref c, .int ((b * 40693 + 71) % 2147483647 : Nat)]) := upd_same
      have hc3 : (upd H2 d (.lst [.ref c, .int ((b * 40693 + 71) % 2147483647 : Nat)])) c = some (.lst (nv [])) := by rw [upd_ne (Ne.symm ndc)]; exact hc2
      refine ⟨_, rfl, d, [.ref c, .int ((b * 40693 + 71) % 2147483647 : Nat)], 1, _, rfl, rfl, SqL.of hd3, atI_nat (j := 1) rfl, _, 64, rfl, rfl, ⟨by decide, by decide⟩, .inl ⟨_, rfl, _, rfl, _, k, rfl, rfl, hk, ?_⟩⟩
      exact q _ _ (Nat.mod_lt _ hk) e2.setD ⟨[], _, hd3, hc3, ndc, Nat.zero_le _⟩
    · rw [List.concat_eq_append] at hc2 hl1 ⊢
      rw [List.length_append, List.length_singleton] at hl1
      rw [decide_eq_false (show ¬ ns1 ++ [z] = [] by simp)]
      refine ⟨_, rfl, d, _, 0, _, rfl, rfl, SqL.of hd2, atI_nat (j := 0) rfl, .inl ⟨rfl, _, SqL.of hc2⟩, c, nv ns1 ++ [.int (z : Nat)], .int (z : Nat), rfl, rfl, by rw [← nv_snoc]; exact hc2, ?_, .inl ⟨_, rfl, ?_⟩⟩
      · rw [List.length_append, List.length_singleton, Nat.add_sub_cancel, List.getElem?_append_right (Nat.le_refl _), Nat.sub_self]
        rfl
      have hd3 : (upd H2 c (.lst (nv ns1 ++ [V.int (z : Nat)]).dropLast)) d = some (.lst [.ref c, .int (b : Nat)]) := by rw [upd_ne ndc]; exact hd2
      have hc3 : (upd H2 c (.lst (nv ns1 ++ [V.int (z : Nat)]).dropLast)) c = some (.lst (nv ns1)) := by rw [upd_same, List.dropLast_concat]
      have e3 : ExD d c H (upd H2 c (.lst (nv ns1 ++ [V.int (z : Nat)]).dropLast)) := e2.setC
      generalize (upd H2 c (.lst (nv ns1 ++ [V.int (z : Nat)]).dropLast)) = H3 at e3 hd3 hc3 ⊢
      refine ⟨_, rfl, d, _, 0, _, rfl, rfl, SqL.of hd3, atI_nat (j := 0) rfl, .inl ⟨rfl, _, SqL.of hc3⟩, _, rfl, _, rfl, z, k, rfl, rfl, ⟨hk, hkz⟩, c, _, _, rfl, rfl, hc3, sz_lt (by rw [nv_len]; omega), ?_⟩
      refine ⟨_, rfl, _, rfl, z, k, rfl, rfl, hk, ?_⟩
      exact q _ _ (Nat.mod_lt _ hk) e3.setC ⟨ns1 ++ [z / k], b, by rw [upd_ne ndc]; exact hd3, by rw [upd_same, nv_snoc], ndc, by rw [List.length_append, List.length_singleton]; omega⟩
end
end Bf
namespace Bf
open PySem PySem.Spec PyProof.Rows L2 RZ PpSet
open C8 (Cal Met Mak Def cal0 met0 mak0 pe_c pe_mk pe_mt pe_mt0 fnScope fnBody InsC call_isC tCut pss_cut)
open Evl (Ex ex_l ex_t ex_rd fresh_back sz_of sz_lt)
section
variable {P : Program} {w : World} {K : PySem.W.Frag} {mg : Str → Option Value} {base : Heap}
theorem exD_l {H H' : Hp} {d c a : Addr} {xs : List V} (hD : Deal d c H) (n : a ≠ d ∧ a ≠ c) (e : ExD d c H H') (h : SqL K H a xs) : SqL K H' a xs := by
  rcases h with (h | ⟨u, h⟩) | h
  · exact .inl (.inl (e _ _ n.1 n.2 h))
  · exact .inl (.inr ⟨u, e _ _ (hD.ne h (by intro z q; cases q)).1 (hD.ne h (by intro z q; cases q)).2 h⟩)
  · exact .inr h
theorem Tups.exD {H H' : Hp} {d c : Addr} {vs : List V} {xss : List (List Nat)} (t : Tups K H vs xss) (hD : Deal d c H) (e : ExD d c H H') : Tups K H' vs xss := ⟨t.1, fun i xs h => let ⟨p, h1, h2⟩ := t.2 i xs h; ⟨p, h1, exD_t hD e h2⟩⟩
theorem erase_perm {α : Type} : ∀ (ys : List α) (v : Nat) (h : v < ys.length), (ys[v] :: ys.eraseIdx v).Perm ys
  | [], v, h => absurd h (Nat.not_lt_zero v)
  | y :: r, 0, h => List.Perm.refl _
  | y :: r, v + 1, h => (List.Perm.swap y (r[v]'(Nat.lt_of_succ_lt_succ h)) (r.eraseIdx v)).trans (List.Perm.cons y (erase_perm r v (Nat.lt_of_succ_lt_succ h)))
theorem ixN_n {n k : Nat} (h : k < n) : ixN n (k : Int) = some k := by
  unfold ixN
  rw [if_pos (by omega), if_pos (by omega)]
  rfl
abbrev s_law_of : Stmt := topS 62
abbrev N_law_of : List Str := ["_law_deal", "_law_some"]
theorem sc_law_of : FnScope N_law_of ["_law_deal", "_law_some"] (fnScope s_law_of) := ⟨rfl, rfl, rfl, by decide +kernel, rfl, by decide +kernel, by decide +kernel⟩
def spOf (K : PySem.W.Frag) : Sp := sp2 fun x y H Q => ∃ d c a, ∃ xs : List Nat, x = .ref d ∧ y = .ref a ∧ SqL K H a (nv xs) ∧ a ≠ d ∧ a ≠ c ∧ 0 < xs.length ∧ xs.length ≤ 1000 ∧ Deal d c H ∧ ∀ v H', v ∈ xs → ExD d c H H' → Deal d c H' → Q (.int (v : Nat)) H'
theorem c_law_of (d : DefB K mg "_law_of" s_law_of ["_law_deal", "_law_some"]) (Z : Zb mg) (c_law_any : Cal P w K mg base 1 "_law_any" spAny []) : Cal P w K mg base 2 "_law_of" (spOf K) [] := by
  refine cal_of d sc_law_of len2 fun vs0 H Q E h f0 cdv A outer s0 E' hr => ?_
  obtain ⟨x, y, rfl, d, c, a, xs, rfl, rfl, ha, n1, n2, hl, hz, hD, q⟩ := h
  refine ⟨_, (pss_one (ps_ret (pe_ix (ix_listK K) (pv 1) (pe_c c_law_any hr (by decide) (by rfl) (pa_cons (pv 0) (pa_cons (pe_callB (call_lenK K) (by rfl) Z.len (by decide +kernel) (pa_cons (pv 1) pa_nil)) pa_nil))) (fun _ _ => rfl)))), ?_⟩
  refine ⟨_, rfl, _, rfl, _, rfl, a, _, rfl, .inl ha, _, _, rfl, d, c, (nv xs).length, rfl, rfl, by rw [nv_len]; exact hl, by rw [nv_len]; omega, hD, fun v H1 hv e1 hD1 => ?_⟩
  rw [nv_len] at hv
  exact ⟨a, _, v, _, rfl, rfl, exD_l hD ⟨n1, n2⟩ e1 ha, atI_nat (nv_get (List.getElem?_eq_getElem hv)), q _ H1 (List.getElem_mem hv) e1 hD1⟩
abbrev s_law_mixed : Stmt := topS 63
abbrev N_law_mixed : List Str := ["_law_deal", "_law_some", "_law_left", "_law_found"]
theorem sc_law_mixed : FnScope N_law_mixed ["_law_deal", "_law_some"] (fnScope s_law_mixed) := ⟨rfl, rfl, rfl, by decide +kernel, rfl, by decide +kernel, by decide +kernel⟩
/-- what «left != []» asks -/
def NeOk (K : PySem.W.Frag) (d c : Addr) (H : Hp) (xs : List V) : Prop := ∀ (ys : List V) (H2 : Hp) (l p : Addr) (Q2 : VK), (∀ y ∈ ys, y ∈ xs) → ExD d c H H2 → H2 l = some (.lst ys) → H2 p = some (.lst []) → Q2 (.bl (!decide (ys = []))) H2 → rNeD K (.ref l) (.ref p) H2 Q2
def spMixed (K : PySem.W.Frag) : Sp := sp2 fun x y H Q => ∃ d c a xs, x = .ref d ∧ y = .ref a ∧ SqL K H a xs ∧ xs.length ≤ 1000 ∧ Deal d c H ∧ NeOk K d c H xs ∧ ∀ p ys H', ExD d c H H' → Deal d c H' → H p = none → H' p = some (.lst ys) → ys.Perm xs → Q (.ref p) H'
theorem c_law_mixed (d : DefB K mg "_law_mixed" s_law_mixed ["_law_deal", "_law_some"]) (Z : Zb mg) (c_law_any : Cal P w K mg base 1 "_law_any" spAny []) : Cal P w K mg base 2 "_law_mixed" (spMixed K) [] := by
  refine cal_of d sc_law_mixed len2 fun vs0 H Q E h f0 cdv A outer s0 E' hr => ?_
  obtain ⟨x, y, rfl, d, c, a, xs, rfl, rfl, ha, hz, hD, hne, q⟩ := h
  refine ⟨_, (pss_cons (ps_par (i := 2) (j := 3) (by rfl) sc_law_mixed.nd rfl rfl (by decide) rfl rfl (pa_cons (pe_callTy (call_lstK K) (by rfl) Z.list_ (by decide +kernel) (pa_cons (pv 1) pa_nil)) (pa_cons (pe_lst pa_nil) pa_nil)) (by rfl))
      (pss_cons (ps_while PassesOwn.never (pt_cmpR (op_neK K rfl hr.units) (pv 2) (pe_lst pa_nil) (nomark _))
        (pss_one (ps_expr (pe_bm PySem.F.plainAttrs_list PySem.F.slot_list_append PySem.F.type_list_append mt_append (pv 3) (pa_cons (pe_bm PySem.F.plainAttrs_list PySem.F.slot_list_pop PySem.F.type_list_pop mt_popAt (pv 2) (pa_cons (pe_c c_law_any hr (by decide) (by rfl) (pa_cons (pv 0) (pa_cons (pe_callB (call_lenK K) (by rfl) Z.len (by decide +kernel) (pa_cons (pv 2) pa_nil)) pa_nil))) pa_nil)) pa_nil)))))
      (pss_one (ps_ret (pv 3))))), ?_⟩
  refine ⟨_, rfl, a, _, rfl, .inl ha, fun l1 h1 => ⟨Nat.zero_le _, fun l2 h2 => ⟨_, _, rfl, ?_⟩⟩⟩
  have e2 := (ex_new (o := .lst xs) h1).trans (ex_new (o := .lst []) h2)
  have n12 : l1 ≠ l2 := fun z => by rw [← z, upd_same] at h2; cases h2
  have h2H : H l2 = none := by rw [upd_ne (Ne.symm n12)] at h2; exact h2
  have f1 := hD.fresh h1
  have f2 := hD.fresh h2H
  refine ⟨fun μ σ H' => ∃ ys zs, μ = ys.length ∧ σ = [some (.ref d), some (.ref a), some (.ref l1), some (.ref l2)] ∧ ExD d c H H' ∧ Deal d c H' ∧ H' l1 = some (.lst ys) ∧ H' l2 = some (.lst zs) ∧ (zs ++ ys).Perm xs,
    ⟨xs.length, xs, [], rfl, rfl, exD_of e2, hD.ex e2, by rw [upd_ne n12, upd_same], upd_same, List.Perm.refl _⟩, ?_⟩
  rintro μ σ H1 ⟨ys, zs, rfl, rfl, e1, hD1, hl1, hl2, hp⟩
  have hlen := hp.length_eq
  rw [List.length_append] at hlen
  refine ⟨_, rfl, by show 0 ≤ sizeLine; decide, fun p hpn => ?_⟩
  have x3 := ex_new (o := .lst []) hpn
  refine hne ys _ l1 p _ (fun y hy => hp.mem_iff.mp (List.mem_append_right _ hy)) (e1.trans (exD_of x3)) (x3 _ _ hl1) upd_same ⟨_, rfl, ?_⟩
  have e3 := e1.trans (exD_of x3)
  have hD3 := hD1.ex x3
  have hl13 := x3 _ _ hl1
  have hl23 := x3 _ _ hl2
  generalize (upd H1 p (.lst [])) = H3 at e3 hD3 hl13 hl23 ⊢
  by_cases hy : ys = []
  · subst hy
    rw [decide_eq_true rfl]
    rw [List.append_nil] at hp
    exact ⟨_, rfl, q l2 zs H3 e3 hD3 h2H hl23 hp⟩
  · rw [decide_eq_false hy]
    have hyl := List.length_pos_iff.mpr hy
    refine ⟨_, fun σ' H' h => h, ?_⟩
    refine ⟨_, rfl, .inl ⟨rfl, _, SqL.of hl23⟩, _, rfl, .inl ⟨rfl, _, SqL.of hl13⟩, _, rfl, _, rfl, l1, _, rfl, .inl (SqL.of hl13), _, _, rfl, d, c, ys.length, rfl, rfl, hyl, by omega, hD3, fun v H4 hv e4 hD4 => ?_⟩
    have hl14 := e4 _ _ f1.1 f1.2 hl13
    have hl24 := e4 _ _ f2.1 f2.2 hl23
    have hix := (ixN_seq (ixN_n hv)).1
    refine ⟨l1, ys, v, v, ys[v], rfl, rfl, hl14, by omega, by omega, hix, List.getElem?_eq_getElem hv, ?_⟩
    have hl25 : (upd H4 l1 (.lst (ys.eraseIdx v))) l2 = some (.lst zs) := by rw [upd_ne (Ne.symm n12)]; exact hl24
    refine ⟨l2, zs, ys[v], rfl, rfl, hl25, sz_lt (by omega), ?_⟩
    refine ⟨ys.length - 1, by omega, ys.eraseIdx v, zs ++ [ys[v]], by rw [List.length_eraseIdx, if_pos hv], rfl, ((e3.trans e4).mut h1).mut h2H, (hD4.upd f1).upd f2, by rw [upd_ne n12, upd_same], upd_same, ?_⟩
    rw [List.append_assoc]
    exact (List.Perm.append_left zs (erase_perm ys v hv)).trans hp
abbrev s_law_then : Stmt := topS 64
abbrev N_law_then : List Str := ["_law_one", "_law_other", "_law_state"]
theorem sc_law_then : FnScope N_law_then ["_law_one", "_law_other"] (fnScope s_law_then) := ⟨rfl, rfl, rfl, by decide +kernel, rfl, by decide +kernel, by decide +kernel⟩
def spThen (K : PySem.W.Frag) : Sp := sp2 fun x y H Q => ∃ a b, ∃ f g : List Nat, x = .ref a ∧ y = .ref b ∧ SqT K H a (nv f) ∧ SqT K H b (nv g) ∧ f.length ≤ 5000 ∧ (∀ s ∈ f, s < g.length) ∧ RetT K (nv (cmp f g)) H Q
theorem c_law_then (d : DefB K mg "_law_then" s_law_then ["_law_one", "_law_other"]) (Z : Zb mg) : Cal P w K mg base 1 "_law_then" (spThen K) [] := by
  refine cal_of d sc_law_then len2 fun vs0 H Q E h f0 cdv A outer s0 E' hr => ?_
  obtain ⟨x, y, rfl, a, b, f, g, rfl, rfl, ha, hb, hl, hlt, q⟩ := h
  refine ⟨_, (pss_one (ps_ret (pe_callTy (call_tupK K) (by rfl) Z.tuple_ (by decide +kernel) (pa_cons (pe_lc (own := [("_law_state", 2)]) rfl sc_law_then.nd (pi_tupK K rfl (pv 0)) (blkOk_by (own := [("_law_state", 2)]) (N := N_law_then) (sc := fnScope s_law_then) (by decide +kernel)) (fun _ _ _ _ _ => (pg_name (i := 2) sc_law_then.nd rfl (Or.inl rfl))) (fun _ _ _ _ _ => pts_nil) (fun _ _ _ _ _ => (pe_ix (ix_tupK K) (pv 1) (pv 2) (fun _ _ => rfl)))) pa_nil)))), ?_⟩
  refine ⟨_, rfl, a, rfl, ⟨_, ha⟩, fun D hD => cmT (fun i acc _ => acc = nv ((f.take i).map (ap g))) (steady_val _) hD rfl ha (by rw [nv_len]; omega) ?_ ?_⟩
  · intro i x hi acc H2 QF QT e hd p kF kT
    obtain ⟨s, hs, rfl⟩ := nv_at hi
    have hsl := hlt s (List.mem_of_getElem? hs)
    refine ⟨rfl, _, rfl, _, rfl, b, _, s, _, rfl, rfl, ex_t e hb, atI_nat (nv_get (ap_get hsl)), kT _ _ (Ex.refl _) ?_⟩
    show acc ++ [V.int (ap g s : Nat)] = nv ((f.take (i + 1)).map (ap g))
    rw [show acc = _ from p, tk hs, List.map_append, ← nv_snoc]
    rfl
  · intro acc H2 e hd p
    have p' : acc = nv ((f.take (nv f).length).map (ap g)) := p
    rw [nv_len, List.take_length] at p'
    subst p'
    exact ⟨D, _, rfl, .inl ⟨SqL.of hd, fun l hl => q l _ (e.trans (ex_new hl)) (SqT.of upd_same)⟩⟩
abbrev s_law_place : Stmt := topS 66
abbrev N_law_place : List Str := ["_law_many", "_law_s", "_law_q", "_law_r", "_law_side"]
theorem sc_law_place : FnScope N_law_place ["_law_many", "_law_s", "_law_q", "_law_r", "_law_side"] (fnScope s_law_place) := ⟨rfl, rfl, rfl, by decide +kernel, rfl, by decide +kernel, by decide +kernel⟩
def plc (many s q r side : Nat) : Nat := if r = 0 then q else 2 * many + 2 * (q * (s - 1) + r - 1) + side
theorem plc_lt {many s q r side : Nat} (hq : q < many) (hr : r ≤ s - 1) (hs : 1 ≤ s) (h1 : side ≤ 1) : plc many s q r side < 2 * s * many := by
  unfold plc
  obtain ⟨t, rfl⟩ : ∃ t, s = t + 1 := ⟨s - 1, by omega⟩
  have e : 2 * (t + 1) * many = 2 * many + 2 * (many * t) := by
    have e0 : (t + 1) * many = many * t + many := by rw [Nat.succ_mul, Nat.mul_comm]
    rw [Nat.mul_assoc, e0]
    omega
  rw [e]
  rw [Nat.add_sub_cancel] at hr ⊢
  split
  · omega
  · have h2 : (q + 1) * t ≤ many * t := Nat.mul_le_mul_right t hq
    rw [Nat.succ_mul] at h2
    omega
def spPlace : Sp := sp5 fun x y z u v H Q => ∃ many s q r side : Nat, x = .int many ∧ y = .int s ∧ z = .int q ∧ u = .int r ∧ v = .int side ∧ 1 ≤ s ∧ q ≤ 1000 ∧ Q (.int (plc many s q r side : Nat)) H
theorem c_law_place (d : DefB K mg "_law_place" s_law_place ["_law_many", "_law_s", "_law_q", "_law_r", "_law_side"]) (Z : Zb mg) : Cal P w K mg base 1 "_law_place" spPlace [] := by
  refine cal_of d sc_law_place len5 fun vs0 H Q E h f0 cdv A outer s0 E' hr => ?_
  obtain ⟨x, y, z, u, v, rfl, many, s, q0, r, side, rfl, rfl, rfl, rfl, rfl, hs, hq, q⟩ := h
  refine ⟨_, (pss_one (ps_ret (pe_ifExp (pt_cmpR on_eq (pv 3) pe_int (nomark _)) (pv 2) (pe_op on_add (pe_op on_add (pe_op on_mul pe_int (pv 0)) (pe_op on_mul pe_int (pe_op on_sub (pe_op on_add (pe_op on_mul (pv 2) (pe_op on_sub (pv 1) pe_int)) (pv 3)) pe_int))) (pv 4))))), ?_⟩
  refine ⟨_, rfl, r, 0, rfl, rfl, _, rfl, ?_⟩
  unfold plc at q
  by_cases h : r = 0
  · rw [if_pos h] at q
    rw [decide_eq_true h]
    exact ⟨_, rfl, q⟩
  · rw [if_neg h] at q
    rw [decide_eq_false h]
    exact ⟨_, rfl, 2, many, rfl, rfl, .inl (by decide), _, rfl, _, rfl, s, 1, rfl, rfl, hs, q0, s - 1, rfl, rfl, .inl (by omega), _, rfl, _, r, rfl, rfl, _, 1, rfl, rfl, by omega, 2, _, rfl, rfl, .inl (by decide), _, _, rfl, rfl, _, rfl, _, side, rfl, rfl, q⟩
end
end Bf
namespace Bf
open PySem PySem.Spec PyProof.Rows L2 RZ PpSet
open C8 (Cal Met Mak Def cal0 met0 mak0 pe_c pe_mk pe_mt pe_mt0 fnScope fnBody InsC call_isC tCut pss_cut)
open Evl (Ex ex_l ex_t ex_rd fresh_back sz_of sz_lt)
section
variable {P : Program} {w : World} {K : PySem.W.Frag} {mg : Str → Option Value} {base : Heap}
/-- the path of a state -/
def pathL (f : List Nat) (s j : Nat) : List Nat := (List.range j).map fun x => it f x s
theorem pathL_len (f : List Nat) (s j : Nat) : (pathL f s j).length = j := by unfold pathL; rw [List.length_map, List.length_range]
theorem pathL_at {f : List Nat} {s j x : Nat} (h : x < j) : (pathL f s j)[x]? = some (it f x s) := by unfold pathL; rw [List.getElem?_map, List.getElem?_range h]; rfl
theorem pathL_succ (f : List Nat) (s j : Nat) : pathL f s (j + 1) = pathL f s j ++ [it f j s] := by unfold pathL; rw [List.range_succ, List.map_append]; rfl
theorem pathL_mem {f : List Nat} {s j v : Nat} : v ∈ pathL f s j ↔ ∃ x, x < j ∧ it f x s = v := by
  unfold pathL
  rw [List.mem_map]
  exact ⟨fun ⟨x, h1, h2⟩ => ⟨x, List.mem_range.mp h1, h2⟩, fun ⟨x, h1, h2⟩ => ⟨x, List.mem_range.mpr h1, h2⟩⟩
theorem path_come {f : List Nat} {s b j n : Nat} (hb : b < j) (hn : j ≤ n) (he : it f b s = it f j s) : it f (b + (n - b) % (j - b)) s = it f n s := by
  have hc : Rep f s b (j - b) := fun m hm => by
    obtain ⟨e, rfl⟩ := Nat.exists_eq_add_of_le hm
    rw [show b + e + (j - b) = j + e by omega, it_add, it_add, ← he]
  have h1 := hc.mul ((n - b) / (j - b)) (b + (n - b) % (j - b)) (Nat.le_add_right _ _)
  rw [← h1]
  congr 1
  have := Nat.mod_add_div (n - b) (j - b)
  rw [Nat.mul_comm] at this
  omega
abbrev s_law_power : Stmt := topS 65
abbrev N_law_power : List Str := ["_law_one", "_law_count", "_law_found", "_law_state", "_law_path", "_law_back"]
theorem sc_law_power : FnScope N_law_power ["_law_one", "_law_count"] (fnScope s_law_power) := ⟨rfl, rfl, rfl, by decide +kernel, rfl, by decide +kernel, by decide +kernel⟩
theorem c_law_power (d : DefB K mg "_law_power" s_law_power ["_law_one", "_law_count"]) (Z : Zb mg) : Cal P w K mg base 1 "_law_power" (spRaised K) [] := by
  refine cal_of d sc_law_power len2 fun vs0 H Q E h f0 cdv A outer s0 E' hr => ?_
  obtain ⟨x, y, rfl, a, f, n, rfl, rfl, ha, hf, hl, q⟩ := h
  refine ⟨_, (pss_cons (ps_set (i := 2) sc_law_power.nd rfl (Or.inl rfl) (pe_lst pa_nil))
      (pss_cons (ps_for PassesOwn.never rfl (pi_range1 (by rfl) Z.range (pa_cons (pe_callB (call_lenK K) (by rfl) Z.len (by decide +kernel) (pa_cons (pv 0) pa_nil)) pa_nil)) (pg_name (i := 3) sc_law_power.nd rfl (Or.inl rfl))
        (pss_cons (ps_set (i := 4) sc_law_power.nd rfl (Or.inl rfl) (pe_lst (pa_cons (pv 3) pa_nil)))
        (pss_cons (ps_while PassesOwn.never (PW.pt (pw_and (pt_cmpR on_le (pe_callB (call_lenK K) (by rfl) Z.len (by decide +kernel) (pa_cons (pv 4) pa_nil)) (pv 1) (nomark _)) (pw_and1 (pt_cmpR (op_notInK K) (pe_ix (ix_tupK K) (pv 0) (pe_ix (ix_listK K) (pv 4) (pe_un un_neg pe_int) (fun _ _ => rfl)) (fun _ _ => rfl)) (pv 4) (by rfl)))))
          (pss_one (ps_expr (pe_bm PySem.F.plainAttrs_list PySem.F.slot_list_append PySem.F.type_list_append mt_append (pv 4) (pa_cons (pe_ix (ix_tupK K) (pv 0) (pe_ix (ix_listK K) (pv 4) (pe_un un_neg pe_int) (fun _ _ => rfl)) (fun _ _ => rfl)) pa_nil)))))
        (pss_one (ps_if (pt_cmpR on_lt (pv 1) (pe_callB (call_lenK K) (by rfl) Z.len (by decide +kernel) (pa_cons (pv 4) pa_nil)) (nomark _))
          (pss_one (ps_expr (pe_bm PySem.F.plainAttrs_list PySem.F.slot_list_append PySem.F.type_list_append mt_append (pv 2) (pa_cons (pe_ix (ix_listK K) (pv 4) (pv 1) (fun _ _ => rfl)) pa_nil))))
          (pss_cons (ps_set (i := 5) sc_law_power.nd rfl (Or.inl rfl) (pe_bm PySem.F.plainAttrs_list PySem.F.slot_list_index PySem.F.type_list_index mt_index (pv 4) (pa_cons (pe_ix (ix_tupK K) (pv 0) (pe_ix (ix_listK K) (pv 4) (pe_un un_neg pe_int) (fun _ _ => rfl)) (fun _ _ => rfl)) pa_nil)))
          (pss_one (ps_expr (pe_bm PySem.F.plainAttrs_list PySem.F.slot_list_append PySem.F.type_list_append mt_append (pv 2) (pa_cons (pe_ix (ix_listK K) (pv 4) (pe_op on_add (pv 5) (pe_op on_mod (pe_callTy call_int1 (by rfl) Z.int_ (by decide +kernel) (pa_cons (pe_op on_sub (pv 1) (pv 5)) pa_nil)) (pe_op on_sub (pe_callB (call_lenK K) (by rfl) Z.len (by decide +kernel) (pa_cons (pv 4) pa_nil)) (pv 5)))) (fun _ _ => rfl)) pa_nil))))))))))
      (pss_one (ps_ret (pe_callTy (call_tupK K) (by rfl) Z.tuple_ (by decide +kernel) (pa_cons (pv 2) pa_nil)))))), ?_⟩
  refine ⟨Nat.zero_le _, fun l hln => ?_⟩
  have e0 := ex_new (o := .lst []) hln
  have hl0 : (upd H l (.lst [])) l = some (.lst []) := upd_same
  refine ⟨_, rfl, a, _, rfl, .inr (ex_t e0 ha), f.length, by rw [nv_len], by omega, by omega, for_rng (n := f.length) (fun i σ H' => ∃ u3 u4 u5, σ = [some (.ref a), some (.int (n : Nat)), some (.ref l), u3, u4, u5] ∧ Ex H H' ∧ H' l = some (.lst (nv ((List.range i).map (it f n))))) ⟨none, none, none, rfl, e0, hl0⟩ ?_ ?_⟩
  · rintro i σ H1 hi ⟨u3, u4, u5, rfl, e1, hl1⟩
    refine ⟨_, rfl, by show 1 ≤ sizeLine; decide, fun pp hpp => ?_⟩
    have x2 := ex_new (o := .lst [V.int (i : Nat)]) hpp
    have hppH : H pp = none := fresh_back e1 hpp
    have npl : l ≠ pp := ne_of_none hl1 hpp
    refine ⟨fun μ σ H' => ∃ j, μ = f.length - j ∧ σ = [some (.ref a), some (.int (n : Nat)), some (.ref l), some (.int (i : Nat)), some (.ref pp), u5] ∧ Ex H H' ∧ H' l = some (.lst (nv ((List.range i).map (it f n)))) ∧ H' pp = some (.lst (nv (pathL f i (j + 1)))) ∧ j ≤ n ∧ (∀ x y, x < y → y < j + 1 → it f x i ≠ it f y i),
      ⟨f.length, 0, rfl, rfl, e1.trans x2, x2 _ _ hl1, upd_same, Nat.zero_le n, fun x y h1 h2 => by omega⟩, ?_⟩
    rintro μ σ H3 ⟨j, rfl, rfl, e3, hl3, hp3, hjn, hne⟩
    have hjl := path_le hf hi hne
    have hpl : SqL K H3 pp (nv (pathL f i j) ++ [.int (it f j i : Nat)]) := by rw [← nv_snoc, ← pathL_succ]; exact SqL.of hp3
    have hlen : (nv (pathL f i (j + 1))).length = j + 1 := by rw [nv_len, pathL_len]
    have hlt := it_lt hf j hi
    have hat : atI (nv f) ((it f j i : Nat) : Int) = some (V.int (it f (j + 1) i : Nat)) := by
      rw [it_succ]
      exact atI_nat (nv_get (ap_get hlt))
    -- behind the loop, the path not longer than the count
    refine ⟨_, rfl, pp, _, rfl, .inl (SqL.of hp3), _, rfl, j + 1, n, by rw [hlen], rfl, _, rfl, ?_⟩
    by_cases hc1 : j + 1 ≤ n
    · rw [decide_eq_true hc1]
      refine ⟨_, rfl, _, rfl, 1, rfl, pp, _, -1, _, rfl, rfl, hpl, atI_last _ _, a, _, _, _, rfl, rfl, ex_t e3 ha, hat, _, rfl, pp, _, rfl, .inl (SqL.of hp3), rfl, flat_nv _, _, rfl, ?_⟩
      rw [inV_nv]
      by_cases hin : it f (j + 1) i ∈ pathL f i (j + 1)
      · rw [decide_eq_true hin]
        -- it comes round
        have hidx := pathL_mem.mp hin
        obtain ⟨b, ⟨hb1, hb2⟩, hbmin⟩ := least hidx
        refine ⟨_, rfl, _, rfl, pp, _, rfl, .inl (SqL.of hp3), n, j + 1, rfl, by rw [hlen], _, rfl, ?_⟩
        rw [decide_eq_false (by omega)]
        refine ⟨_, rfl, .inl ⟨rfl, _, SqL.of hp3⟩, _, rfl, _, rfl, 1, rfl, pp, _, -1, _, rfl, rfl, hpl, atI_last _ _, a, _, _, _, rfl, rfl, ex_t e3 ha, hat, pp, _, _, b, _, rfl, rfl, SqL.of hp3, rfl, flat_nv _, nv_get (pathL_at hb1), ?_, ?_, ?_⟩
        · show ((it f b i : Int) == (it f (j + 1) i : Int)) = true
          rw [hb2]
          exact beq_self_eq_true _
        · intro m z' hm hz
          rw [nv_get (pathL_at (by omega))] at hz
          have hz := Option.some.inj hz
          subst hz
          show ((it f m i : Int) == (it f (j + 1) i : Int)) = false
          rw [beq_eq_false_iff_ne]
          intro z
          have := hbmin m ⟨by omega, by omega⟩
          omega
        · refine ⟨_, rfl, .inl ⟨rfl, _, SqL.of hl3⟩, _, rfl, _, rfl, _, rfl, _, rfl, n, b, rfl, rfl, by omega, .inl ⟨_, rfl, _, rfl, pp, _, rfl, .inl (SqL.of hp3), _, rfl, j + 1, b, by rw [hlen], rfl, by omega, n - b, j + 1 - b, rfl, rfl, by omega, b, _, rfl, rfl, ?_⟩⟩
          have hmod := Nat.mod_lt (n - b) (show 0 < j + 1 - b by omega)
          refine ⟨pp, _, ((b + (n - b) % (j + 1 - b) : Nat) : Int), _, rfl, rfl, SqL.of hp3, atI_nat (nv_get (pathL_at (by omega))), l, _, _, rfl, rfl, hl3, sz_lt (by rw [nv_len, List.length_map, List.length_range]; omega), ?_⟩
          rw [path_come hb1 hc1 hb2]
          refine ⟨_, _, _, rfl, ex_mut e3 hln, ?_⟩
          rw [upd_same, List.range_succ, List.map_append, ← nv_snoc]
          rfl
      · rw [decide_eq_false hin]
        have hne2 : ∀ x y, x < y → y < j + 1 + 1 → it f x i ≠ it f y i := fun x y h1 h2 => by
          by_cases e : y = j + 1
          · subst e
            exact fun z => hin (pathL_mem.mpr ⟨x, h1, z⟩)
          · exact hne x y h1 (by omega)
        have hjl2 := path_le hf hi hne2
        refine ⟨_, fun σ' H' h => h, ?_⟩
        refine ⟨_, rfl, .inl ⟨rfl, _, SqL.of hp3⟩, _, rfl, _, rfl, 1, rfl, pp, _, -1, _, rfl, rfl, hpl, atI_last _ _, a, _, _, _, rfl, rfl, ex_t e3 ha, hat, pp, _, _, rfl, rfl, hp3, sz_lt (by rw [hlen]; omega), ?_⟩
        refine ⟨f.length - (j + 1), by omega, j + 1, rfl, rfl, ex_mut e3 hppH, by rw [upd_ne npl]; exact hl3, by rw [upd_same, ← nv_snoc, ← pathL_succ], hc1, hne2⟩
    · rw [decide_eq_false hc1]
      have hjn2 : j = n := by omega
      subst hjn2
      refine ⟨_, rfl, _, rfl, pp, _, rfl, .inl (SqL.of hp3), j, j + 1, rfl, by rw [hlen], _, rfl, ?_⟩
      rw [decide_eq_true (Nat.lt_succ_self j)]
      refine ⟨_, rfl, .inl ⟨rfl, _, SqL.of hl3⟩, _, rfl, _, rfl, pp, _, j, _, rfl, rfl, SqL.of hp3, atI_nat (nv_get (pathL_at (Nat.lt_succ_self j))), l, _, _, rfl, rfl, hl3, sz_lt (by rw [nv_len, List.length_map, List.length_range]; omega), ?_⟩
      refine ⟨_, _, _, rfl, ex_mut e3 hln, ?_⟩
      rw [upd_same, List.range_succ, List.map_append, ← nv_snoc]
      rfl
  · rintro σ H1 ⟨u3, u4, u5, rfl, e1, hl1⟩
    exact ⟨_, rfl, l, _, rfl, .inl ⟨SqL.of hl1, fun p hp => q p _ (e1.trans (ex_new hp)) (SqT.of upd_same)⟩⟩
end
end Bf
namespace Bf
open PySem PySem.Spec PyProof.Rows L2 RZ PpSet
open C8 (Cal Met Mak Def cal0 met0 mak0 pe_c pe_mk pe_mt pe_mt0 fnScope fnBody InsC call_isC tCut pss_cut)
open Evl (Ex ex_l ex_t ex_rd fresh_back sz_of sz_lt)
section
variable {P : Program} {w : World} {K : PySem.W.Frag} {mg : Str → Option Value} {base : Heap}
/-! ### two changes of a closed set -/
def Pr : List Nat → Nat
  | [] => 1
  | s :: l => 2 * s * Pr l
theorem Pr_app : ∀ l m, Pr (l ++ m) = Pr l * Pr m
  | [], m => by show Pr m = 1 * Pr m; rw [Nat.one_mul]
  | s :: l, m => by
    show 2 * s * Pr (l ++ m) = 2 * s * Pr l * Pr m
    rw [Pr_app l m, ← Nat.mul_assoc]
theorem Pr_rev : ∀ l, Pr l.reverse = Pr l
  | [] => rfl
  | s :: l => by
    rw [List.reverse_cons, Pr_app, Pr_rev l]
    show Pr l * (2 * s * 1) = 2 * s * Pr l
    rw [Nat.mul_one, Nat.mul_comm]
theorem Pr_pos : ∀ l : List Nat, (∀ s ∈ l, 1 ≤ s) → 1 ≤ Pr l
  | [], _ => Nat.le_refl 1
  | s :: l, h => by
    have h1 := h s List.mem_cons_self
    have h2 := Pr_pos l fun t ht => h t (List.mem_cons_of_mem _ ht)
    exact Nat.mul_pos (by omega) h2
theorem Pr_take {l : List Nat} (h : ∀ s ∈ l, 1 ≤ s) (i : Nat) : Pr (l.take i) ≤ Pr l := by
  have e : Pr l = Pr (l.take i) * Pr (l.drop i) := by rw [← Pr_app, List.take_append_drop]
  rw [e]
  exact Nat.le_mul_of_pos_right _ (Pr_pos _ fun s hs => h s (List.mem_of_mem_drop hs))
theorem Pr_fold (l : List Nat) : ∀ e, l.foldl (fun z s => z * 2 * s) e = e * Pr l := by
  induction l with
  | nil => intro e; show e = e * 1; rw [Nat.mul_one]
  | cons s l ih =>
    intro e
    show l.foldl _ (e * 2 * s) = e * (2 * s * Pr l)
    rw [ih, Nat.mul_assoc e 2 s, Nat.mul_assoc e]
/-- a list of numbers below B, so many -/
structure Low (xs : List Nat) (n B : Nat) : Prop where
  len : xs.length = n
  lt : ∀ x ∈ xs, x < B
theorem Low.snoc {xs : List Nat} {n B x : Nat} (h : Low xs n B) (hx : x < B) : Low (xs ++ [x]) (n + 1) B :=
  ⟨by rw [List.length_append, List.length_singleton, h.len], fun y hy => (List.mem_append.mp hy).elim (h.lt y) fun z => by rw [List.mem_singleton.mp z]; exact hx⟩
abbrev s_law_two : Stmt := topS 67
abbrev N_law_two : List Str := ["_law_firsts", "_law_end", "_law_one", "_law_other", "_law_s", "_law_many", "_law_r", "_law_ones", "_law_others", "_law_q", "_law_longer", "_law_second", "_law_state"]
theorem sc_law_two : FnScope N_law_two ["_law_firsts", "_law_end"] (fnScope s_law_two) := ⟨rfl, rfl, rfl, by decide +kernel, rfl, by decide +kernel, by decide +kernel⟩
def spTwo (K : PySem.W.Frag) : Sp := sp2 fun x y H Q => ∃ a, ∃ (fs : List Nat) (e : Nat), x = .ref a ∧ y = .int e ∧ SqT K H a (nv fs) ∧ (∀ s ∈ fs, 1 ≤ s) ∧ fs.length ≤ 1000 ∧ 1 ≤ e ∧ e * Pr fs ≤ 16 ∧
  ∀ p vs f g H', Ex H H' → H p = none → H' p = some (.lst vs) → Tups K H' vs [f, g] → Chg f → Chg g → f.length = e * Pr fs → g.length = e * Pr fs → Q (.ref p) H'
theorem c_law_two (d : DefB K mg "_law_two" s_law_two ["_law_firsts", "_law_end"]) (Z : Zb mg) (c_law_power : Cal P w K mg base 1 "_law_power" (spRaised K) []) (c_law_place : Cal P w K mg base 1 "_law_place" spPlace []) : Cal P w K mg base 2 "_law_two" (spTwo K) [] := by
  refine cal_of d sc_law_two len2 fun vs0 H Q E h f0 cdv A outer s0 E' hr => ?_
  obtain ⟨x, y, rfl, a, fs, e, rfl, rfl, ha, hfs, hz, he, h16, q⟩ := h
  have hPp := Pr_pos fs hfs
  have he16 : e ≤ 16 := Nat.le_trans (Nat.le_mul_of_pos_right e hPp) h16
  refine ⟨_, (pss_cons (ps_asg (pe_tup (pa_cons (pe_listRg rfl (by rfl) Z.list_ (prg_1 rfl Z.range (pv 1))) (pa_cons (pe_lc (own := [("_law_state", 12)]) rfl sc_law_two.nd (pi_range1 (by rfl) Z.range (pa_cons (pv 1) pa_nil)) (blkOk_by (own := [("_law_state", 12)]) (N := N_law_two) (sc := fnScope s_law_two) (by decide +kernel)) (fun _ _ _ _ _ => (pg_name (i := 12) sc_law_two.nd rfl (Or.inl rfl))) (fun _ _ _ _ _ => pts_nil) (fun _ _ _ _ _ => (pe_op on_mod (pe_callTy call_int1 (by rfl) Z.int_ (by decide +kernel) (pa_cons (pe_op on_add (pv 12) pe_int) pa_nil)) (pv 1)))) pa_nil))) (pg_tupK K rfl 2 rfl (pgs_cons (pg_name (i := 2) sc_law_two.nd rfl (Or.inr rfl)) (pgs_cons (pg_name (i := 3) sc_law_two.nd rfl (Or.inr rfl)) pgs_nil))))
      (pss_cons (ps_for PassesOwn.never rfl (pi_tupK K rfl (pe_revT (pv 0))) (pg_name (i := 4) sc_law_two.nd rfl (Or.inr rfl))
        (pss_cons (ps_set (i := 5) sc_law_two.nd rfl (Or.inr rfl) (pe_callB (call_lenK K) (by rfl) Z.len (by decide +kernel) (pa_cons (pv 2) pa_nil)))
        (pss_cons (ps_par (i := 7) (j := 8) (by rfl) sc_law_two.nd rfl rfl (by decide) rfl rfl (pa_cons (pe_lc (own := [("_law_r", 6)]) rfl sc_law_two.nd (pi_range1 (by rfl) Z.range (pa_cons (pv 4) pa_nil)) (blkOk_by (own := [("_law_r", 6)]) (N := N_law_two) (sc := fnScope s_law_two) (by decide +kernel)) (fun _ _ _ _ _ => (pg_name (i := 6) sc_law_two.nd rfl (Or.inl rfl))) (fun _ _ _ _ _ => pts_nil) (fun _ _ _ _ _ => (pe_c c_law_power hr (by decide) (by rfl) (pa_cons (pe_callTy (call_tupK K) (by rfl) Z.tuple_ (by decide +kernel) (pa_cons (pv 2) pa_nil)) (pa_cons (pe_op on_sub (pv 4) (pv 6)) pa_nil))))) (pa_cons (pe_lc (own := [("_law_r", 6)]) rfl sc_law_two.nd (pi_range1 (by rfl) Z.range (pa_cons (pv 4) pa_nil)) (blkOk_by (own := [("_law_r", 6)]) (N := N_law_two) (sc := fnScope s_law_two) (by decide +kernel)) (fun _ _ _ _ _ => (pg_name (i := 6) sc_law_two.nd rfl (Or.inl rfl))) (fun _ _ _ _ _ => pts_nil) (fun _ _ _ _ _ => (pe_c c_law_power hr (by decide) (by rfl) (pa_cons (pe_callTy (call_tupK K) (by rfl) Z.tuple_ (by decide +kernel) (pa_cons (pv 3) pa_nil)) (pa_cons (pe_op on_sub (pv 4) (pv 6)) pa_nil))))) pa_nil)) (by rfl))
        (pss_cons (ps_set (i := 10) sc_law_two.nd rfl (Or.inl rfl) (pe_op op_cat (pv 2) (pe_lc (own := [("_law_q", 9)]) rfl sc_law_two.nd (pi_range1 (by rfl) Z.range (pa_cons (pv 5) pa_nil)) (blkOk_by (own := [("_law_q", 9)]) (N := N_law_two) (sc := fnScope s_law_two) (by decide +kernel)) (fun _ _ _ _ _ => (pg_name (i := 9) sc_law_two.nd rfl (Or.inl rfl))) (fun _ _ _ _ _ => pts_nil) (fun _ _ _ _ _ => (pe_c c_law_place hr (by decide) (by rfl) (pa_cons (pv 5) (pa_cons (pv 4) (pa_cons (pv 9) (pa_cons (pe_op on_sub (pv 4) pe_int) (pa_cons pe_int pa_nil))))))))))
        (pss_cons (ps_set (i := 11) sc_law_two.nd rfl (Or.inl rfl) (pe_op op_cat (pv 3) (pe_lc (own := [("_law_q", 9)]) rfl sc_law_two.nd (pi_range1 (by rfl) Z.range (pa_cons (pv 5) pa_nil)) (blkOk_by (own := [("_law_q", 9)]) (N := N_law_two) (sc := fnScope s_law_two) (by decide +kernel)) (fun _ _ _ _ _ => (pg_name (i := 9) sc_law_two.nd rfl (Or.inl rfl))) (fun _ _ _ _ _ => pts_nil) (fun _ _ _ _ _ => (pe_c c_law_place hr (by decide) (by rfl) (pa_cons (pv 5) (pa_cons (pv 4) (pa_cons (pv 9) (pa_cons (pe_op on_sub (pv 4) pe_int) (pa_cons pe_int pa_nil))))))))))
        (pss_cons (ps_for PassesOwn.never rfl (pi_range1 (by rfl) Z.range (pa_cons (pv 5) pa_nil)) (pg_name (i := 9) sc_law_two.nd rfl (Or.inl rfl))
          (pss_one (ps_for PassesOwn.never rfl (pi_range2 (by rfl) Z.range (pa_cons pe_int (pa_cons (pv 4) pa_nil))) (pg_name (i := 6) sc_law_two.nd rfl (Or.inl rfl))
            (pss_cons (ps_expr (pe_bm PySem.F.plainAttrs_list PySem.F.slot_list_append PySem.F.type_list_append mt_append (pv 10) (pa_cons (pe_c c_law_place hr (by decide) (by rfl) (pa_cons (pv 5) (pa_cons (pv 4) (pa_cons (pv 9) (pa_cons (pe_op on_sub (pv 6) pe_int) (pa_cons pe_int pa_nil)))))) pa_nil)))
            (pss_cons (ps_expr (pe_bm PySem.F.plainAttrs_list PySem.F.slot_list_append PySem.F.type_list_append mt_append (pv 11) (pa_cons (pe_c c_law_place hr (by decide) (by rfl) (pa_cons (pv 5) (pa_cons (pv 4) (pa_cons (pe_ix (ix_tupK K) (pe_ix (ix_listK K) (pv 7) (pv 6) (fun _ _ => rfl)) (pv 9) (fun _ _ => rfl)) (pa_cons (pe_op on_sub (pv 4) pe_int) (pa_cons pe_int pa_nil)))))) pa_nil)))
            (pss_cons (ps_expr (pe_bm PySem.F.plainAttrs_list PySem.F.slot_list_append PySem.F.type_list_append mt_append (pv 10) (pa_cons (pe_c c_law_place hr (by decide) (by rfl) (pa_cons (pv 5) (pa_cons (pv 4) (pa_cons (pe_ix (ix_tupK K) (pe_ix (ix_listK K) (pv 8) (pv 6) (fun _ _ => rfl)) (pv 9) (fun _ _ => rfl)) (pa_cons (pe_op on_sub (pv 4) pe_int) (pa_cons pe_int pa_nil)))))) pa_nil)))
            (pss_one (ps_expr (pe_bm PySem.F.plainAttrs_list PySem.F.slot_list_append PySem.F.type_list_append mt_append (pv 11) (pa_cons (pe_c c_law_place hr (by decide) (by rfl) (pa_cons (pv 5) (pa_cons (pv 4) (pa_cons (pv 9) (pa_cons (pe_op on_sub (pv 6) pe_int) (pa_cons pe_int pa_nil)))))) pa_nil))))))))))
        (pss_one (ps_asg (pe_tup (pa_cons (pv 10) (pa_cons (pv 11) pa_nil))) (pg_tupK K rfl 2 rfl (pgs_cons (pg_name (i := 2) sc_law_two.nd rfl (Or.inr rfl)) (pgs_cons (pg_name (i := 3) sc_law_two.nd rfl (Or.inr rfl)) pgs_nil)))))))))))
      (pss_one (ps_ret (pe_lst (pa_cons (pe_callTy (call_tupK K) (by rfl) Z.tuple_ (by decide +kernel) (pa_cons (pv 2) pa_nil)) (pa_cons (pe_callTy (call_tupK K) (by rfl) Z.tuple_ (by decide +kernel) (pa_cons (pv 3) pa_nil)) pa_nil))))))), ?_⟩
  refine ⟨_, rfl, e, rfl, .of_le (by omega) (by omega) (by omega) (by omega), fun p1 hp1 => ?_⟩
  have x1 := ex_new (o := .lst (rgV 0 (e : Nat))) hp1
  have h1 : (upd H p1 (.lst (rgV 0 (e : Nat)))) p1 = some (.lst (nv (List.range e))) := by rw [upd_same, rgV_nat]
  generalize (upd H p1 (.lst (rgV 0 (e : Nat)))) = H1 at x1 h1 ⊢
  have hp1H := hp1
  refine ⟨_, rfl, e, rfl, by omega, by omega, fun p2 hp2 => cmR (n := e) (fun i acc _ => acc = nv ((List.range i).map fun t => (t + 1) % e)) (steady_val _) hp2 rfl (by omega) ?_ ?_⟩
  · intro i hi acc H2 QF QT e2 hd p kF kT
    refine ⟨rfl, _, rfl, i, 1, rfl, rfl, .inl ⟨_, rfl, _, rfl, i + 1, e, rfl, rfl, by omega, kT _ _ (Ex.refl _) ?_⟩⟩
    show acc ++ [V.int ((i + 1) % e : Nat)] = nv ((List.range (i + 1)).map fun t => (t + 1) % e)
    rw [show acc = _ from p, List.range_succ, List.map_append, ← nv_snoc]
    rfl
  intro acc H2 e2 hd2 p
  have p' : acc = nv ((List.range e).map fun t => (t + 1) % e) := p
  subst p'
  have h12 := e2 _ _ h1
  have n12 : p1 ≠ p2 := fun z => by rw [← z, h1] at hp2; cases hp2
  have hp2H : H p2 = none := fresh_back x1 hp2
  refine ⟨by show 2 ≤ sizeLine; decide, fun t ht => ⟨t, _, rfl, SqT.of upd_same, rfl, _, _, rfl, _, _, rfl, rfl, ?_⟩⟩
  have x3 := ex_new (o := .tup [.ref p1, .ref p2]) ht
  have e3 := (x1.trans e2).trans x3
  have h13 := x3 _ _ h12
  have h23 := x3 _ _ hd2
  generalize (upd H2 t (.tup [.ref p1, .ref p2])) = H3 at e3 h13 h23 ⊢
  -- the loop
  refine ⟨_, rfl, a, _, rfl, ex_t e3 ha, fun pr hpr => ?_⟩
  have x4 := ex_new (o := .tup (nv fs).reverse) hpr
  have hpr' : SqT K (upd H3 pr (.tup (nv fs).reverse)) pr (nv fs.reverse) := SqT.of (by
    rw [upd_same]
    show some (HO.tup (List.map _ _).reverse) = some (HO.tup (List.map _ _))
    rw [List.map_reverse])
  have e4 := e3.trans x4
  have h14 := x4 _ _ h13
  have h24 := x4 _ _ h23
  generalize (upd H3 pr (.tup (nv fs).reverse)) = H4 at e4 h14 h24 hpr' ⊢
  refine ⟨pr, rfl, ⟨_, hpr'⟩, for_tup (xs := nv fs.reverse) (fun i σ H' => ∃ q1 q2 f g u4 u5 u6 u7 u8 u9 u10 u11, σ = [some (.ref a), some (.int (e : Nat)), some (.ref q1), some (.ref q2), u4, u5, u6, u7, u8, u9, u10, u11, none] ∧ Ex H H' ∧ Ex H4 H' ∧ H' q1 = some (.lst (nv f)) ∧ H' q2 = some (.lst (nv g)) ∧
    Chg f ∧ Chg g ∧ f.length = e * Pr (fs.reverse.take i) ∧ g.length = e * Pr (fs.reverse.take i))
    ⟨p1, p2, List.range e, (List.range e).map fun t => (t + 1) % e, none, none, none, none, none, none, none, none, rfl, e4, Ex.refl _, h14, h24, chg_range e, ?_, ?_, ?_⟩ (fun i σ H' _ z => by obtain ⟨_, _, _, _, _, _, _, _, _, _, _, _, _, _, e, _⟩ := z; exact ex_t e hpr') ?_ ?_⟩
  · intro x hx
    rw [List.length_map, List.length_range]
    obtain ⟨t, _, rfl⟩ := List.mem_map.mp hx
    exact Nat.mod_lt _ (by omega)
  · show (List.range e).length = e * 1
    rw [List.length_range, Nat.mul_one]
  · show ((List.range e).map fun t => (t + 1) % e).length = e * 1
    rw [List.length_map, List.length_range, Nat.mul_one]
  · rintro i x σ H5 hi ⟨q1, q2, f, g, u4, u5, u6, u7, u8, u9, u10, u11, rfl, e5, e45, hf5, hg5, hf, hg, lf, lg⟩
    obtain ⟨s, hs, rfl⟩ := nv_at hi
    have hfr : ∀ s ∈ fs.reverse, 1 ≤ s := fun s h => hfs s (List.mem_reverse.mp h)
    have hs1 := hfr s (List.mem_of_getElem? hs)
    have hnext : e * Pr (fs.reverse.take (i + 1)) = 2 * s * f.length := by
      rw [tk hs, Pr_app, lf]
      show e * (Pr (fs.reverse.take i) * (2 * s * 1)) = _
      rw [Nat.mul_one, ← Nat.mul_assoc, Nat.mul_comm]
    have hnz : 2 * s * f.length ≤ 16 := by
      rw [← hnext]
      exact Nat.le_trans (Nat.mul_le_mul_left e (Nat.le_trans (Pr_take hfr _) (Nat.le_of_eq (Pr_rev fs)))) h16
    have hN1 : 1 ≤ f.length := by
      rw [lf]
      exact Nat.mul_pos (by omega) (Pr_pos _ fun t ht => hfr t (List.mem_of_mem_take ht))
    have hN16 : f.length ≤ 16 := Nat.le_trans (Nat.le_mul_of_pos_left _ (by omega)) hnz
    have hs16 : s ≤ 16 := Nat.le_trans (Nat.le_trans (by omega : s ≤ 2 * s) (Nat.le_mul_of_pos_right _ hN1)) hnz
    have hgl : g.length = f.length := by rw [lg, lf]
    generalize hN : f.length = N at hnext hnz hN1 hN16 hgl
    refine ⟨_, rfl, q1, _, rfl, .inl (SqL.of hf5), ?_⟩
    rw [nv_len, hN]
    -- the powers
    refine ⟨_, rfl, s, rfl, by omega, by omega, fun D1 hD1 => cmR (n := s) (fun j acc H' => Tups K H' acc ((List.range j).map fun r => pw f (s - r))) (fun j acc zs zs' H' hd p => p.upd hd) hD1 Tups.nil (by omega) ?_ ?_⟩
    · intro r hr2 acc H6 QF QT e6 hd p kF kT
      refine ⟨rfl, _, rfl, q1, _, rfl, .inl ⟨SqL.of (e6 _ _ hf5), fun t ht => ?_⟩⟩
      refine ⟨_, rfl, _, rfl, s, r, rfl, rfl, by omega, _, _, rfl, t, f, s - r, rfl, rfl, SqT.of upd_same, hf, by omega, fun pp H7 e7 hpp => ?_⟩
      have e67 := (ex_new (o := .tup (nv f)) ht).trans e7
      refine kT _ _ e67 ?_
      show Tups K _ _ ((List.range (r + 1)).map fun r => pw f (s - r))
      rw [List.range_succ, List.map_append]
      exact (Tups.ex p e67).snoc hpp
    intro v7 H6 e6 hd7 p7
    refine ⟨_, rfl, s, rfl, by omega, by omega, fun D2 hD2 => cmR (n := s) (fun j acc H' => Tups K H' acc ((List.range j).map fun r => pw g (s - r))) (fun j acc zs zs' H' hd p => p.upd hd) hD2 Tups.nil (by omega) ?_ ?_⟩
    · intro r hr2 acc H7 QF QT e7 hd p kF kT
      refine ⟨rfl, _, rfl, q2, _, rfl, .inl ⟨SqL.of (e7 _ _ (e6 _ _ hg5)), fun t ht => ?_⟩⟩
      refine ⟨_, rfl, _, rfl, s, r, rfl, rfl, by omega, _, _, rfl, t, g, s - r, rfl, rfl, SqT.of upd_same, hg, by omega, fun pp H8 e8 hpp => ?_⟩
      have e78 := (ex_new (o := .tup (nv g)) ht).trans e8
      refine kT _ _ e78 ?_
      show Tups K _ _ ((List.range (r + 1)).map fun r => pw g (s - r))
      rw [List.range_succ, List.map_append]
      exact (Tups.ex p e78).snoc hpp
    intro v8 H7 e7 hd8 p8
    refine ⟨_, _, rfl, ?_⟩
    have p77 : Tups K H7 v7 ((List.range s).map fun r => pw f (s - r)) := Tups.ex p7 e7
    have p88 : Tups K H7 v8 ((List.range s).map fun r => pw g (s - r)) := p8
    have hd77 := e7 _ _ hd7
    have e57 := e6.trans e7
    have hf7 := e57 _ _ hf5
    have hg7 := e57 _ _ hg5
    have e07 := e5.trans e57
    have e47 := e45.trans e57
    -- longer
    refine ⟨_, rfl, _, rfl, N, rfl, by omega, by omega, fun D3 hD3 => cmR (n := N) (fun j acc _ => acc = nv ((List.range j).map fun q => plc N s q (s - 1) 0)) (steady_val _) hD3 rfl (by omega) ?_ ?_⟩
    · intro j hj acc H8 QF QT e8 hd p kF kT
      refine ⟨rfl, _, rfl, _, rfl, _, rfl, _, rfl, s, 1, rfl, rfl, hs1, _, _, _, _, _, rfl, N, s, j, s - 1, 0, rfl, rfl, rfl, rfl, rfl, hs1, by omega, kT _ _ (Ex.refl _) ?_⟩
      show acc ++ [V.int (plc N s j (s - 1) 0 : Nat)] = nv ((List.range (j + 1)).map fun q => plc N s q (s - 1) 0)
      rw [show acc = _ from p, List.range_succ, List.map_append, ← nv_snoc]
      rfl
    intro acc3 H8 e8 hd3 p3
    have p3' : acc3 = nv ((List.range N).map fun q => plc N s q (s - 1) 0) := p3
    subst p3'
    refine ⟨q1, D3, _, _, rfl, rfl, e8 _ _ hf7, hd3, ?_, fun l10 hl10 => ?_⟩
    · rw [nv_len, nv_len, List.length_map, List.length_range]
      exact Nat.le_of_lt (sz_lt (by omega))
    have y9 := ex_new (o := .lst (nv f ++ nv ((List.range N).map fun q => plc N s q (s - 1) 0))) hl10
    have L10 : ∃ L, (upd H8 l10 (.lst (nv f ++ nv ((List.range N).map fun q => plc N s q (s - 1) 0)))) l10 = some (.lst (nv L)) ∧ Low L (2 * N) (2 * s * N) := by
      refine ⟨f ++ (List.range N).map fun q => plc N s q (s - 1) 0, by rw [upd_same]; exact congrArg (fun z => some (HO.lst z)) List.map_append.symm, ?_, fun x hx => ?_⟩
      · rw [List.length_append, List.length_map, List.length_range]; omega
      · have hNs : N ≤ 2 * s * N := Nat.le_mul_of_pos_left N (by omega)
        rcases List.mem_append.mp hx with hx | hx
        · have := hf x hx; omega
        · obtain ⟨q, hq, rfl⟩ := List.mem_map.mp hx
          exact plc_lt (List.mem_range.mp hq) (Nat.le_refl _) hs1 (by decide)
    generalize (upd H8 l10 (.lst (nv f ++ nv ((List.range N).map fun q => plc N s q (s - 1) 0)))) = H9 at y9 L10 ⊢
    have e79 := e8.trans y9
    have hl107 : H7 l10 = none := fresh_back e8 hl10
    -- second
    refine ⟨_, rfl, _, rfl, N, rfl, by omega, by omega, fun D4 hD4 => cmR (n := N) (fun j acc _ => acc = nv ((List.range j).map fun q => plc N s q (s - 1) 1)) (steady_val _) hD4 rfl (by omega) ?_ ?_⟩
    · intro j hj acc H10 QF QT e10 hd p kF kT
      refine ⟨rfl, _, rfl, _, rfl, _, rfl, _, rfl, s, 1, rfl, rfl, hs1, _, _, _, _, _, rfl, N, s, j, s - 1, 1, rfl, rfl, rfl, rfl, rfl, hs1, by omega, kT _ _ (Ex.refl _) ?_⟩
      show acc ++ [V.int (plc N s j (s - 1) 1 : Nat)] = nv ((List.range (j + 1)).map fun q => plc N s q (s - 1) 1)
      rw [show acc = _ from p, List.range_succ, List.map_append, ← nv_snoc]
      rfl
    intro acc4 H10 e10 hd4 p4
    have p4' : acc4 = nv ((List.range N).map fun q => plc N s q (s - 1) 1) := p4
    subst p4'
    refine ⟨q2, D4, _, _, rfl, rfl, e10 _ _ (e79 _ _ hg7), hd4, ?_, fun l11 hl11 => ?_⟩
    · rw [nv_len, nv_len, List.length_map, List.length_range]
      exact Nat.le_of_lt (sz_lt (by omega))
    have y11 := ex_new (o := .lst (nv g ++ nv ((List.range N).map fun q => plc N s q (s - 1) 1))) hl11
    have L11 : ∃ L, (upd H10 l11 (.lst (nv g ++ nv ((List.range N).map fun q => plc N s q (s - 1) 1)))) l11 = some (.lst (nv L)) ∧ Low L (2 * N) (2 * s * N) := by
      refine ⟨g ++ (List.range N).map fun q => plc N s q (s - 1) 1, by rw [upd_same]; exact congrArg (fun z => some (HO.lst z)) List.map_append.symm, ?_, fun x hx => ?_⟩
      · rw [List.length_append, List.length_map, List.length_range]; omega
      · have hNs : N ≤ 2 * s * N := Nat.le_mul_of_pos_left N (by omega)
        rcases List.mem_append.mp hx with hx | hx
        · have := hg x hx; omega
        · obtain ⟨q, hq, rfl⟩ := List.mem_map.mp hx
          exact plc_lt (List.mem_range.mp hq) (Nat.le_refl _) hs1 (Nat.le_refl _)
    generalize (upd H10 l11 (.lst (nv g ++ nv ((List.range N).map fun q => plc N s q (s - 1) 1)))) = H11 at y11 L11 ⊢
    have e911 := e10.trans y11
    have e711 := e79.trans e911
    have hl117 : H7 l11 = none := fresh_back (e79.trans e10) hl11
    obtain ⟨L10, h10, w10⟩ := L10
    obtain ⟨L11, h11, w11⟩ := L11
    have h1011 := e911 _ _ h10
    have nll : l10 ≠ l11 := ne_of_none (e10 _ _ h10) hl11
    -- both loops
    refine ⟨_, rfl, N, rfl, by omega, by omega, for_rng (n := N) (fun j σ H' => ∃ u6 u9 La Lb, σ = [some (.ref a), some (.int (e : Nat)), some (.ref q1), some (.ref q2), some (.int (s : Nat)), some (.int (N : Nat)), u6, some (.ref D1), some (.ref D2), u9, some (.ref l10), some (.ref l11), none] ∧ Ex H7 H' ∧
      H' l10 = some (.lst (nv La)) ∧ H' l11 = some (.lst (nv Lb)) ∧ Low La (2 * N + j * (2 * (s - 1))) (2 * s * N) ∧ Low Lb (2 * N + j * (2 * (s - 1))) (2 * s * N)) ⟨_, _, L10, L11, rfl, e711, h1011, h11, by rw [Nat.zero_mul]; exact w10, by rw [Nat.zero_mul]; exact w11⟩ ?_ ?_⟩
    · rintro j σ H12 hj ⟨u6, u9, La, Lb, rfl, e12, ha12, hb12, wa, wb⟩
      refine ⟨_, rfl, 1, s, rfl, ⟨by decide, by decide, by omega, by omega⟩, ?_⟩
      rw [show (s : Int) - 1 = ((s - 1 : Nat) : Int) by omega, Int.toNat_natCast]
      refine for_range (lo := 1) (n := s - 1) (fun k σ H' => ∃ u6 La Lb, σ = [some (.ref a), some (.int (e : Nat)), some (.ref q1), some (.ref q2), some (.int (s : Nat)), some (.int (N : Nat)), u6, some (.ref D1), some (.ref D2), some (.int (j : Nat)), some (.ref l10), some (.ref l11), none] ∧ Ex H7 H' ∧
        H' l10 = some (.lst (nv La)) ∧ H' l11 = some (.lst (nv Lb)) ∧ Low La (2 * N + j * (2 * (s - 1)) + 2 * k) (2 * s * N) ∧ Low Lb (2 * N + j * (2 * (s - 1)) + 2 * k) (2 * s * N)) ⟨_, La, Lb, rfl, e12, ha12, hb12, wa, wb⟩ ?_ ?_
      · rintro k σ H13 hk ⟨u6, La, Lb, rfl, e13, ha13, hb13, wa, wb⟩
        have ek : (1 : Int) + (k : Int) = ((k + 1 : Nat) : Int) := by omega
        rw [ek]
        have hjs : (j + 1) * (2 * (s - 1)) ≤ N * (2 * (s - 1)) := Nat.mul_le_mul_right _ hj
        rw [Nat.succ_mul] at hjs
        have hNs : N * (2 * (s - 1)) + 2 * N = 2 * s * N := by
          obtain ⟨z, rfl⟩ : ∃ z, s = z + 1 := ⟨s - 1, by omega⟩
          rw [Nat.add_sub_cancel, Nat.mul_comm N, ← Nat.add_mul]
          rfl
        have la := wa.len
        have lb := wb.len
        obtain ⟨pf, gf1, gf2⟩ := p77.2 (k + 1) (pw f (s - (k + 1))) (by rw [List.getElem?_map, List.getElem?_range (by omega)]; rfl)
        obtain ⟨pg, gg1, gg2⟩ := p88.2 (k + 1) (pw g (s - (k + 1))) (by rw [List.getElem?_map, List.getElem?_range (by omega)]; rfl)
        have hjf : j < (pw f (s - (k + 1))).length := by rw [pw_len]; omega
        have hjg : j < (pw g (s - (k + 1))).length := by rw [pw_len]; omega
        have bf : ap (pw f (s - (k + 1))) j < N := by have := ap_lt (pw_chg hf (s - (k + 1))) hjf; rwa [pw_len, hN] at this
        have bg : ap (pw g (s - (k + 1))) j < N := by have := ap_lt (pw_chg hg (s - (k + 1))) hjg; rwa [pw_len, hgl] at this
        refine ⟨_, rfl, .inl ⟨rfl, _, SqL.of ha13⟩, _, rfl, _, rfl, _, rfl, _, rfl, k + 1, 1, rfl, rfl, by omega, _, _, _, _, _, rfl, N, s, j, k + 1 - 1, 0, rfl, rfl, rfl, rfl, rfl, hs1, by omega, l10, _, _, rfl, rfl, ha13, sz_lt (by rw [nv_len]; omega), ?_⟩
        have z14 : Ex H7 (upd H13 l10 (.lst (nv La ++ [V.int (plc N s j (k + 1 - 1) 0 : Nat)]))) := ex_mut e13 hl107
        have ha14 : (upd H13 l10 (.lst (nv La ++ [V.int (plc N s j (k + 1 - 1) 0 : Nat)]))) l10 = some (.lst (nv (La ++ [plc N s j (k + 1 - 1) 0]))) := by rw [upd_same, nv_snoc]
        have hb14 : (upd H13 l10 (.lst (nv La ++ [V.int (plc N s j (k + 1 - 1) 0 : Nat)]))) l11 = some (.lst (nv Lb)) := by rw [upd_ne (Ne.symm nll)]; exact hb13
        have wa14 := wa.snoc (plc_lt (many := N) (s := s) (q := j) (r := k + 1 - 1) (side := 0) hj (by omega) hs1 (by decide))
        generalize (upd H13 l10 (.lst (nv La ++ [V.int (plc N s j (k + 1 - 1) 0 : Nat)]))) = H14 at z14 ha14 hb14 ⊢
        generalize La ++ [plc N s j (k + 1 - 1) 0] = La14 at ha14 wa14
        refine ⟨_, rfl, .inl ⟨rfl, _, SqL.of hb14⟩, _, rfl, _, rfl, _, rfl, _, rfl, D1, _, _, _, rfl, rfl, SqL.of (z14 _ _ hd77), atI_nat gf1, _, rfl, pf, _, j, _, rfl, rfl, ex_t z14 gf2, atI_nat (nv_get (ap_get hjf)), _, rfl, s, 1, rfl, rfl, hs1, _, _, _, _, _, rfl, N, s, _, s - 1, 1, rfl, rfl, rfl, rfl, rfl, hs1, by omega,
          l11, _, _, rfl, rfl, hb14, sz_lt (by rw [nv_len]; omega), ?_⟩
        have wb15 := wb.snoc (plc_lt (many := N) (s := s) (q := ap (pw f (s - (k + 1))) j) (r := s - 1) (side := 1) bf (Nat.le_refl _) hs1 (Nat.le_refl _))
        have z15 : Ex H7 (upd H14 l11 (.lst (nv Lb ++ [V.int (plc N s (ap (pw f (s - (k + 1))) j) (s - 1) 1 : Nat)]))) := ex_mut z14 hl117
        have hb15 : (upd H14 l11 (.lst (nv Lb ++ [V.int (plc N s (ap (pw f (s - (k + 1))) j) (s - 1) 1 : Nat)]))) l11 = some (.lst (nv (Lb ++ [plc N s (ap (pw f (s - (k + 1))) j) (s - 1) 1]))) := by rw [upd_same, nv_snoc]
        have ha15 : (upd H14 l11 (.lst (nv Lb ++ [V.int (plc N s (ap (pw f (s - (k + 1))) j) (s - 1) 1 : Nat)]))) l10 = some (.lst (nv La14)) := by rw [upd_ne nll]; exact ha14
        generalize (upd H14 l11 (.lst (nv Lb ++ [V.int (plc N s (ap (pw f (s - (k + 1))) j) (s - 1) 1 : Nat)]))) = H15 at z15 ha15 hb15 ⊢
        generalize Lb ++ [plc N s (ap (pw f (s - (k + 1))) j) (s - 1) 1] = Lb15 at hb15 wb15
        have la14 := wa14.len
        have lb15 := wb15.len
        refine ⟨_, rfl, .inl ⟨rfl, _, SqL.of ha15⟩, _, rfl, _, rfl, _, rfl, _, rfl, D2, _, _, _, rfl, rfl, SqL.of (z15 _ _ hd8), atI_nat gg1, _, rfl, pg, _, j, _, rfl, rfl, ex_t z15 gg2, atI_nat (nv_get (ap_get hjg)), _, rfl, s, 1, rfl, rfl, hs1, _, _, _, _, _, rfl, N, s, _, s - 1, 0, rfl, rfl, rfl, rfl, rfl, hs1, by omega,
          l10, _, _, rfl, rfl, ha15, sz_lt (by rw [nv_len]; omega), ?_⟩
        have wa16 := wa14.snoc (plc_lt (many := N) (s := s) (q := ap (pw g (s - (k + 1))) j) (r := s - 1) (side := 0) bg (Nat.le_refl _) hs1 (by decide))
        have z16 : Ex H7 (upd H15 l10 (.lst (nv La14 ++ [V.int (plc N s (ap (pw g (s - (k + 1))) j) (s - 1) 0 : Nat)]))) := ex_mut z15 hl107
        have ha16 : (upd H15 l10 (.lst (nv La14 ++ [V.int (plc N s (ap (pw g (s - (k + 1))) j) (s - 1) 0 : Nat)]))) l10 = some (.lst (nv (La14 ++ [plc N s (ap (pw g (s - (k + 1))) j) (s - 1) 0]))) := by rw [upd_same, nv_snoc]
        have hb16 : (upd H15 l10 (.lst (nv La14 ++ [V.int (plc N s (ap (pw g (s - (k + 1))) j) (s - 1) 0 : Nat)]))) l11 = some (.lst (nv Lb15)) := by rw [upd_ne (Ne.symm nll)]; exact hb15
        generalize (upd H15 l10 (.lst (nv La14 ++ [V.int (plc N s (ap (pw g (s - (k + 1))) j) (s - 1) 0 : Nat)]))) = H16 at z16 ha16 hb16 ⊢
        generalize La14 ++ [plc N s (ap (pw g (s - (k + 1))) j) (s - 1) 0] = La16 at ha16 wa16
        refine ⟨_, rfl, .inl ⟨rfl, _, SqL.of hb16⟩, _, rfl, _, rfl, _, rfl, _, rfl, k + 1, 1, rfl, rfl, by omega, _, _, _, _, _, rfl, N, s, j, k + 1 - 1, 1, rfl, rfl, rfl, rfl, rfl, hs1, by omega, l11, _, _, rfl, rfl, hb16, sz_lt (by rw [nv_len]; omega), ?_⟩
        have wb17 := wb15.snoc (plc_lt (many := N) (s := s) (q := j) (r := k + 1 - 1) (side := 1) hj (by omega) hs1 (Nat.le_refl _))
        exact ⟨_, La16, Lb15 ++ [plc N s j (k + 1 - 1) 1], rfl, ex_mut z16 hl117, by rw [upd_ne nll]; exact ha16, by rw [upd_same, nv_snoc], wa16, wb17⟩
      · rintro σ H13 ⟨u6, La, Lb, rfl, e13, ha13, hb13, wa, wb⟩
        refine ⟨_, _, La, Lb, rfl, e13, ha13, hb13, ?_, ?_⟩
        · rw [Nat.add_mul j 1 (2 * (s - 1)), Nat.one_mul, ← Nat.add_assoc]; exact wa
        · rw [Nat.add_mul j 1 (2 * (s - 1)), Nat.one_mul, ← Nat.add_assoc]; exact wb
    · rintro σ H12 ⟨u6, u9, La, Lb, rfl, e12, ha12, hb12, wa, wb⟩
      have hNs : N * (2 * (s - 1)) + 2 * N = 2 * s * N := by
        obtain ⟨z, rfl⟩ : ∃ z, s = z + 1 := ⟨s - 1, by omega⟩
        rw [Nat.add_sub_cancel, Nat.mul_comm N, ← Nat.add_mul]
        rfl
      have la := wa.len
      have lb := wb.len
      refine ⟨_, rfl, _, rfl, by show 2 ≤ sizeLine; decide, fun t ht => ⟨t, _, rfl, SqT.of upd_same, rfl, _, _, rfl, _, _, rfl, rfl, ?_⟩⟩
      have z13 := ex_new (o := .tup [.ref l10, .ref l11]) ht
      refine ⟨l10, l11, La, Lb, _, _, _, _, _, _, _, _, rfl, (e07.trans e12).trans z13, (e47.trans e12).trans z13, z13 _ _ ha12, z13 _ _ hb12, fun x hx => ?_, fun x hx => ?_, by rw [hnext]; omega, by rw [hnext]; omega⟩
      · have := wa.lt x hx; omega
      · have := wb.lt x hx; omega
  · rintro σ H5 ⟨q1, q2, f, g, u4, u5, u6, u7, u8, u9, u10, u11, rfl, e5, e45, hf5, hg5, hf, hg, lf, lg⟩
    have hfin : Pr (fs.reverse.take (nv fs.reverse).length) = Pr fs := by rw [nv_len, List.take_length, Pr_rev]
    rw [hfin] at lf lg
    refine ⟨_, rfl, q1, _, rfl, .inl ⟨SqL.of hf5, fun r1 hr1 => ⟨_, rfl, q2, _, rfl, .inl ⟨SqL.of (ex_new hr1 _ _ hg5), fun r2 hr2 => ⟨by show 2 ≤ sizeLine; decide, fun l hl => ?_⟩⟩⟩⟩⟩
    have y1 := ex_new (o := .tup (nv f)) hr1
    have y2 := ex_new (o := .tup (nv g)) hr2
    have y3 := ex_new (o := .lst [.ref r1, .ref r2]) hl
    refine q l [.ref r1, .ref r2] f g _ (((e5.trans y1).trans y2).trans y3) (fresh_back ((e5.trans y1).trans y2) hl) upd_same ?_ hf hg lf lg
    exact (Tups.snoc (Tups.snoc Tups.nil (SqT.of (y3 _ _ (y2 _ _ upd_same)))) (SqT.of (y3 _ _ upd_same)) : Tups K _ ([] ++ [V.ref r1] ++ [V.ref r2]) ([] ++ [f] ++ [g]))
end
end Bf
namespace Bf
open PySem PySem.Spec PyProof.Rows L2 RZ PpSet
open C8 (Cal Met Mak Def cal0 met0 mak0 pe_c pe_mk pe_mt pe_mt0 fnScope fnBody InsC call_isC tCut pss_cut)
open Evl (Ex ex_l ex_t ex_rd fresh_back sz_of sz_lt)
section
variable {P : Program} {w : World} {K : PySem.W.Frag} {mg : Str → Option Value} {base : Heap}
abbrev s_law_members : Stmt := topS 68
abbrev N_law_members : List Str := ["_law_firsts", "_law_end", "_law_most", "_law_found", "_law_at", "_law_s", "_law_one"]
theorem sc_law_members : FnScope N_law_members ["_law_firsts", "_law_end", "_law_most"] (fnScope s_law_members) := ⟨rfl, rfl, rfl, by decide +kernel, rfl, by decide +kernel, by decide +kernel⟩
def spMembers (K : PySem.W.Frag) : Sp := sp3 fun x y z H Q => ∃ a, ∃ (fs : List Nat) (e m : Nat), x = .ref a ∧ y = .int e ∧ z = .int m ∧ SqL K H a (nv fs) ∧ fs.length ≤ 100 ∧ 1 ≤ e ∧ m ≤ 100 ∧ ∀ p L H', Ex H H' → H' p = some (.lst (nv L)) → L.length ≤ 300 → (∀ x ∈ L, x ≤ m) → Q (.ref p) H'
theorem c_law_members (d : DefB K mg "_law_members" s_law_members ["_law_firsts", "_law_end", "_law_most"]) (Z : Zb mg) : Cal P w K mg base 1 "_law_members" (spMembers K) [] := by
  refine cal_of d sc_law_members len3 fun vs0 H Q E h f0 cdv A outer s0 E' hr => ?_
  obtain ⟨x, y, z, rfl, a, fs, e, m, rfl, rfl, rfl, ha, hfl, he, hm, q⟩ := h
  refine ⟨_, (pss_cons (ps_par (i := 3) (j := 4) (by rfl) sc_law_members.nd rfl rfl (by decide) rfl rfl (pa_cons (pe_lst pa_nil) (pa_cons pe_int pa_nil)) (by rfl))
      (pss_cons (ps_for PassesOwn.never rfl (pi_listK K rfl (pv 0)) (pg_name (i := 5) sc_law_members.nd rfl (Or.inl rfl))
        (pss_cons (ps_expr (pe_bm PySem.F.plainAttrs_list PySem.F.slot_list_append PySem.F.type_list_append mt_append (pv 3) (pa_cons (pv 4) pa_nil)))
        (pss_one (ps_set (i := 4) sc_law_members.nd rfl (Or.inl rfl) (pe_op on_add (pv 4) (pv 5))))))
      (pss_cons (ps_while PassesOwn.never (pt_cmpR on_le (pv 4) (pv 2) (nomark _))
        (pss_cons (ps_expr (pe_bm PySem.F.plainAttrs_list PySem.F.slot_list_append PySem.F.type_list_append mt_append (pv 3) (pa_cons (pv 4) pa_nil)))
        (pss_one (ps_set (i := 4) sc_law_members.nd rfl (Or.inl rfl) (pe_op on_add (pv 4) (pv 1))))))
      (pss_one (ps_ret (pe_lc (own := [("_law_one", 6)]) rfl sc_law_members.nd (pi_listK K rfl (pv 3)) (blkOk_by (own := [("_law_one", 6)]) (N := N_law_members) (sc := fnScope s_law_members) (by decide +kernel)) (fun _ _ _ _ _ => (pg_name (i := 6) sc_law_members.nd rfl (Or.inl rfl))) (fun _ _ _ _ _ => (pts_one (pt_cmpR on_le (pv 6) (pv 2) (nomark _)))) (fun _ _ _ _ _ => (pv 6)))))))), ?_⟩
  refine ⟨Nat.zero_le _, fun l hln => ⟨_, _, rfl, ?_⟩⟩
  have x1 := ex_new (o := .lst []) hln
  refine ⟨_, rfl, a, rfl, ⟨_, ex_l x1 ha⟩, for_list (xs := nv fs) (fun i σ H' => ∃ L at_ u, σ = [some (.ref a), some (.int (e : Nat)), some (.int (m : Nat)), some (.ref l), some (.int (at_ : Nat)), u, none] ∧ Ex H H' ∧ H' l = some (.lst (nv L)) ∧ L.length = i) ⟨[], 0, none, rfl, x1, upd_same, rfl⟩ (fun i σ H' _ z => by obtain ⟨_, _, _, _, e, _⟩ := z; exact ex_l e ha) ?_ ?_⟩
  · rintro i x σ H2 hi ⟨L, at_, u, rfl, e2, h2, hL⟩
    obtain ⟨s, hs, rfl⟩ := nv_at hi
    have hil := (List.getElem?_eq_some_iff.mp hs).1
    refine ⟨_, rfl, .inl ⟨rfl, _, SqL.of h2⟩, _, rfl, l, _, _, rfl, rfl, h2, sz_lt (by rw [nv_len]; omega), ?_⟩
    exact ⟨_, rfl, _, rfl, at_, s, rfl, rfl, L ++ [at_], _, _, rfl, ex_mut e2 hln, by rw [upd_same, nv_snoc], by rw [List.length_append, List.length_singleton, hL]⟩
  · rintro σ H2 ⟨L, at_, u, rfl, e2, h2, hL⟩
    rw [nv_len] at hL
    refine ⟨fun μ σ H' => ∃ L at_, μ = m + 1 - at_ ∧ σ = [some (.ref a), some (.int (e : Nat)), some (.int (m : Nat)), some (.ref l), some (.int (at_ : Nat)), u, none] ∧ Ex H H' ∧ H' l = some (.lst (nv L)) ∧ L.length + (m + 1 - at_) ≤ 201, ⟨m + 1 - at_, L, at_, rfl, rfl, e2, h2, by omega⟩, ?_⟩
    rintro μ σ H3 ⟨L, at_, rfl, rfl, e3, h3, hL3⟩
    refine ⟨_, rfl, _, rfl, at_, m, rfl, rfl, _, rfl, ?_⟩
    by_cases hc : at_ ≤ m
    · rw [decide_eq_true hc]
      refine ⟨_, fun σ' H' h => h, ?_⟩
      refine ⟨_, rfl, .inl ⟨rfl, _, SqL.of h3⟩, _, rfl, l, _, _, rfl, rfl, h3, sz_lt (by rw [nv_len]; omega), ?_⟩
      exact ⟨_, rfl, _, rfl, at_, e, rfl, rfl, m + 1 - (at_ + e), by omega, L ++ [at_], at_ + e, rfl, rfl, ex_mut e3 hln, by rw [upd_same, nv_snoc], by rw [List.length_append, List.length_singleton]; omega⟩
    · rw [decide_eq_false hc]
      refine ⟨_, rfl, l, rfl, ⟨_, SqL.of h3⟩, fun D hD => cmL (fun i acc _ => acc = nv ((L.take i).filter fun x => decide (x ≤ m))) (steady_val _) hD rfl (SqL.of h3) (by rw [nv_len]; omega) ?_ ?_⟩
      · intro i x hi acc H4 QF QT e4 hd p kF kT
        obtain ⟨n, hn, rfl⟩ := nv_at hi
        refine ⟨rfl, _, rfl, _, rfl, n, m, rfl, rfl, _, rfl, ?_⟩
        by_cases h0 : n ≤ m
        · rw [decide_eq_true h0]
          refine ⟨_, rfl, kT _ _ (Ex.refl _) ?_⟩
          show acc ++ [V.int (n : Nat)] = nv ((L.take (i + 1)).filter fun x => decide (x ≤ m))
          rw [show acc = _ from p, tk_yes hn (decide_eq_true h0), ← nv_snoc]
        · rw [decide_eq_false h0]
          refine kF _ (Ex.refl _) ?_
          show acc = nv ((L.take (i + 1)).filter fun x => decide (x ≤ m))
          rw [show acc = _ from p, tk_no hn (decide_eq_false h0)]
      · intro acc H4 e4 hd p
        have p' : acc = nv ((L.take (nv L).length).filter fun x => decide (x ≤ m)) := p
        rw [nv_len, List.take_length] at p'
        subst p'
        exact q D _ H4 (e3.trans e4) hd (Nat.le_trans (List.length_filter_le _ _) (by omega)) fun x hx => of_decide_eq_true (List.mem_filter.mp hx).2
theorem zv_sum : ∀ xs : List Nat, (zv xs).sum = ((xs.sum : Nat) : Int)
  | [] => rfl
  | x :: xs => by
    show ((x : Int) + (zv xs).sum) = _
    rw [zv_sum xs, List.sum_cons, Int.natCast_add]
theorem len_sum : ∀ xs : List Nat, (∀ x ∈ xs, 1 ≤ x) → xs.length ≤ xs.sum
  | [], _ => Nat.le_refl 0
  | x :: xs, h => by
    have h1 := h x List.mem_cons_self
    have h2 := len_sum xs fun y hy => h y (List.mem_cons_of_mem _ hy)
    rw [List.length_cons, List.sum_cons]
    omega
theorem cut_to (xs : List V) (k : Nat) : cutV xs none (some (k : Int)) = xs.take k := by
  unfold cutV
  have e1 : HT.sIx xs.length 0 none = 0 := rfl
  rw [e1, HT.sIx_nat, List.drop_zero, Nat.sub_zero]
  by_cases h : k ≤ xs.length
  · rw [Nat.min_eq_left h]
  · rw [Nat.min_eq_right (by omega), List.take_length, List.take_of_length_le (by omega)]
abbrev s_law_falling : Stmt := topS 69
abbrev N_law_falling : List Str := ["_law_deal", "_law_most", "_law_end", "_law_firsts", "_law_turn", "_law_some", "_law_one"]
theorem sc_law_falling : FnScope N_law_falling ["_law_deal", "_law_most"] (fnScope s_law_falling) := ⟨rfl, rfl, rfl, by decide +kernel, rfl, by decide +kernel, by decide +kernel⟩
def spLawFall (K : PySem.W.Frag) : Sp := sp2 fun x y H Q => ∃ d c, ∃ m : Nat, x = .ref d ∧ y = .int m ∧ m ≤ 90 ∧ Deal d c H ∧ ∀ p q fs e H', ExD d c H H' → Deal d c H' → SqT K H' p [.ref q, .int (e : Nat)] → SqT K H' q (nv fs) → (∀ x ∈ fs, 1 ≤ x ∧ x ≤ 90) → fs.length ≤ 100 → 1 ≤ e → e ≤ 4 → Q (.ref p) H'
theorem c_law_falling (d : DefB K mg "_law_falling" s_law_falling ["_law_deal", "_law_most"]) (Z : Zb mg) (c_law_any : Cal P w K mg base 1 "_law_any" spAny []) (c_law_of : Cal P w K mg base 2 "_law_of" (spOf K) []) (c_law_members : Cal P w K mg base 1 "_law_members" (spMembers K) []) :
    Cal P w K mg base 3 "_law_falling" (spLawFall K) [] := by
  refine cal_of d sc_law_falling len2 fun vs0 H Q E h f0 cdv A outer s0 E' hr => ?_
  obtain ⟨x, y, rfl, d, c, m, rfl, rfl, hm, hD, q⟩ := h
  refine ⟨_, (pss_cons (ps_par (i := 2) (j := 3) (by rfl) sc_law_falling.nd rfl rfl (by decide) rfl rfl (pa_cons (pe_c c_law_of hr (by decide) (by rfl) (pa_cons (pv 0) (pa_cons (pe_lst (pa_cons pe_int (pa_cons pe_int (pa_cons pe_int (pa_cons pe_int (pa_cons pe_int (pa_cons pe_int pa_nil))))))) pa_nil))) (pa_cons (pe_lst pa_nil) pa_nil)) (by rfl))
      (pss_cons (ps_for PassesOwn.never rfl (pi_range1 (by rfl) Z.range (pa_cons (pe_c c_law_any hr (by decide) (by rfl) (pa_cons (pv 0) (pa_cons pe_int pa_nil))) pa_nil)) (pg_name (i := 4) sc_law_falling.nd rfl (Or.inl rfl))
        (pss_cons (ps_setLc (i := 5) (own := [("_law_one", 6)]) rfl sc_law_falling.nd rfl rfl (sw_true rfl rfl rfl (by decide +kernel)) (pi_listK K rfl (pe_c c_law_members hr (by decide) (by rfl) (pa_cons (pv 3) (pa_cons (pv 2) (pa_cons (pe_op on_sub (pv 1) (pe_callB (cr_sumK K rfl rfl) (by rfl) Z.sum_ (by decide +kernel) (pa_cons (pv 3) pa_nil))) pa_nil))))) (blkOk_by (own := [("_law_one", 6)]) (N := N_law_falling) (sc := fnScope s_law_falling) (by decide +kernel)) (fun _ _ _ _ _ => (pg_name (i := 6) sc_law_falling.nd rfl (Or.inl rfl))) (fun _ _ _ _ _ => (pts_one (pt_cmpR on_gt (pv 6) pe_int (nomark _)))) (fun _ _ _ _ _ => (pv 6)))
        (pss_one (ps_if (PW.pt (pw_and (pt_cmpR (op_neK K rfl hr.units) (pv 5) (pe_lst pa_nil) (nomark _)) (pw_and1 (PW.pt (pw_or (pt_cmpR (op_neK K rfl hr.units) (pv 3) (pe_lst pa_nil) (nomark _)) (pw_or1 (pt_cmpR (op_neK K rfl hr.units) (pv 5) (pe_lst (pa_cons (pv 2) pa_nil)) (nomark _))))))))
          (pss_one (ps_set (i := 3) sc_law_falling.nd rfl (Or.inl rfl) (pe_op op_cat (pe_lst (pa_cons (pe_c c_law_of hr (by decide) (by rfl) (pa_cons (pv 0) (pa_cons (pe_slice (sl_listK K) (pv 5) po_none (po_some pe_int)) pa_nil))) pa_nil)) (pv 3))))
          pss_nil))))
      (pss_cons (ps_while PassesOwn.never (PW.pt (pw_and (pt_cmpR (op_neK K rfl hr.units) (pv 3) (pe_lst pa_nil) (nomark _)) (pw_and1 (pt_cmpR on_eq (pe_ix (ix_listK K) (pv 3) (pe_un un_neg pe_int) (fun _ _ => rfl)) (pv 2) (nomark _)))))
        (pss_one (ps_expr (pe_bm0 PySem.F.plainAttrs_list PySem.F.slot_list_pop PySem.F.type_list_pop mt_pop (pv 3)))))
      (pss_one (ps_ret (pe_tup (pa_cons (pe_callTy (call_tupK K) (by rfl) Z.tuple_ (by decide +kernel) (pa_cons (pv 3) pa_nil)) (pa_cons (pv 2) pa_nil)))))))), ?_⟩
  refine ⟨_, rfl, by show 6 ≤ sizeLine; decide, fun l0 hl0 => ?_⟩
  have f0 := hD.fresh hl0
  refine ⟨_, _, rfl, d, c, l0, [1, 1, 1, 2, 3, 4], rfl, rfl, SqL.of upd_same, f0.1, f0.2, by decide, by decide, hD.ex (ex_new hl0), fun e H1 he e1 hD1 => ⟨Nat.zero_le _, fun l1 hl1 => ⟨_, _, rfl, ?_⟩⟩⟩
  have he' : 1 ≤ e ∧ e ≤ 4 := by
    have : e = 1 ∨ e = 2 ∨ e = 3 ∨ e = 4 := by simpa using he
    omega
  have e01 : ExD d c H H1 := (exD_of (ex_new (o := .lst [V.int 1, V.int 1, V.int 1, V.int 2, V.int 3, V.int 4]) hl0)).trans e1
  have e02 := e01.trans (exD_of (ex_new (o := .lst []) hl1))
  have hD2 := hD1.ex (ex_new (o := .lst []) hl1)
  have hl1H : H l1 = none := by
    cases hh : H l1 with
    | none => rfl
    | some o =>
      have f1 := hD1.fresh hl1
      have := e01 l1 o f1.1 f1.2 hh
      rw [this] at hl1
      cases hl1
  have hl1' : (upd H1 l1 (.lst [])) l1 = some (.lst (nv [])) := upd_same
  generalize (upd H1 l1 (.lst [])) = H2 at e02 hD2 hl1' ⊢
  refine ⟨_, rfl, _, _, rfl, d, c, 4, rfl, rfl, by decide, by decide, hD2, fun v H3 hv e3 hD3 => ⟨v, rfl, by omega, by omega, for_rng (n := v) (fun i σ H' => ∃ lf fs u4 u5, σ = [some (.ref d), some (.int (m : Nat)), some (.int (e : Nat)), some (.ref lf), u4, u5, none] ∧ ExD d c H H' ∧ Deal d c H' ∧ H' lf = some (.lst (nv fs)) ∧ H lf = none ∧ (∀ x ∈ fs, 1 ≤ x ∧ x ≤ 90) ∧ fs.sum ≤ m)
    ⟨l1, [], none, none, rfl, e02.trans e3, hD3, e3 _ _ (hD.fresh hl1H).1 (hD.fresh hl1H).2 hl1', hl1H, fun x hx => absurd hx List.not_mem_nil, Nat.zero_le m⟩ ?_ ?_⟩⟩
  · rintro i σ H4 hi ⟨lf, fs, u4, u5, rfl, e4, hD4, h4, hlf, hfs, hsum⟩
    have flf := hD.fresh hlf
    have hfl := len_sum fs fun x hx => (hfs x hx).1
    refine ⟨_, rfl, _, rfl, _, rfl, _, rfl, lf, zv fs, rfl, by rw [zv_nv]; exact SqL.of h4, m, fs.sum, rfl, by rw [zv_sum], hsum, ?_⟩
    refine ⟨_, _, _, rfl, lf, fs, e, m - fs.sum, rfl, rfl, rfl, SqL.of h4, by omega, he'.1, by omega, fun p L H5 e5 hp hLl hL => ⟨p, rfl, ⟨_, SqL.of hp⟩, fun D hDn => cmL (fun i acc _ => acc = nv ((L.take i).filter fun x => decide (0 < x))) (steady_val _) hDn rfl (SqL.of hp) (by rw [nv_len]; omega) ?_ ?_⟩⟩
    · intro i x hi acc H6 QF QT e6 hd p kF kT
      obtain ⟨n, hn, rfl⟩ := nv_at hi
      refine ⟨rfl, _, rfl, n, 0, rfl, rfl, _, rfl, ?_⟩
      by_cases h0 : 0 < n
      · rw [decide_eq_true h0]
        refine ⟨_, rfl, kT _ _ (Ex.refl _) ?_⟩
        show acc ++ [V.int (n : Nat)] = nv ((L.take (i + 1)).filter fun x => decide (0 < x))
        rw [show acc = _ from p, tk_yes hn (decide_eq_true h0), ← nv_snoc]
      · rw [decide_eq_false h0]
        refine kF _ (Ex.refl _) ?_
        show acc = nv ((L.take (i + 1)).filter fun x => decide (0 < x))
        rw [show acc = _ from p, tk_no hn (decide_eq_false h0)]
    intro acc H6 e6 hd6 p
    have p' : acc = nv ((L.take (nv L).length).filter fun x => decide (0 < x)) := p
    rw [nv_len, List.take_length] at p'
    subst p'
    have hSm : ∀ x ∈ L.filter (fun x => decide (0 < x)), 1 ≤ x ∧ x ≤ m - fs.sum := fun x hx => by
      obtain ⟨h1, h2⟩ := List.mem_filter.mp hx
      exact ⟨of_decide_eq_true h2, hL x h1⟩
    have hSl : (L.filter fun x => decide (0 < x)).length ≤ 300 := Nat.le_trans (List.length_filter_le _ _) hLl
    generalize L.filter (fun x => decide (0 < x)) = S at hd6 hSm hSl
    have e46 := e5.trans e6
    have e06 := e4.trans (exD_of e46)
    have hD6 := hD4.ex e46
    have h6 := e46 _ _ h4
    have stay : ∀ H9, Ex H6 H9 → ExD d c H H9 ∧ Deal d c H9 ∧ H9 lf = some (.lst (nv fs)) ∧ H lf = none ∧ (∀ x ∈ fs, 1 ≤ x ∧ x ≤ 90) ∧ fs.sum ≤ m :=
      fun H9 e9 => ⟨e06.trans (exD_of e9), hD6.ex e9, e9 _ _ h6, hlf, hfs, hsum⟩
    refine ⟨_, rfl, by show 0 ≤ sizeLine; decide, fun n1 hn1 => rdNeL (ys := []) (SqL.of (ex_new hn1 _ _ hd6)) (SqL.of upd_same) ⟨_, rfl, ?_⟩⟩
    have x7 := ex_new (o := .lst []) hn1
    generalize (upd H6 n1 (.lst [])) = H7 at x7 ⊢
    by_cases hS : S = []
    · rw [decide_eq_true hS, Bool.not_true]
      exact ⟨lf, fs, _, _, rfl, stay H7 x7⟩
    · rw [decide_eq_false hS, Bool.not_false]
      -- a new first
      have go : ∀ H8, Ex H6 H8 → tAsg (tOp rCat (tLst (tCons (tCall (spOf K) [] C8.E0 (tCons (tVar 0) (tCons (tSl (rSlL K) (tVar 5) tNoPart (tPart (tC (.int 6)))) tNil))) tNil)) (tVar 3)) (gName 3)
          { nx := fun σ H' => ∃ lf fs u4 u5, σ = [some (.ref d), some (.int (m : Nat)), some (.int (e : Nat)), some (.ref lf), u4, u5, none] ∧ ExD d c H H' ∧ Deal d c H' ∧ H' lf = some (.lst (nv fs)) ∧ H lf = none ∧ (∀ x ∈ fs, 1 ≤ x ∧ x ≤ 90) ∧ fs.sum ≤ m, rt := Q }
          [some (.ref d), some (.int (m : Nat)), some (.int (e : Nat)), some (.ref lf), some (.int (i : Nat)), some (.ref D), none] H8 := by
        intro H8 e8
        have hd8 := e8 _ _ hd6
        refine ⟨_, rfl, _, rfl, 6, rfl, D, _, rfl, SqL.of hd8, fun sl hsl => ?_⟩
        have hcut : cutV (nv S) none (some 6) = nv (S.take 6) := by
          rw [show ((6 : Int)) = ((6 : Nat) : Int) from rfl, cut_to]
          exact List.map_take.symm
        rw [hcut]
        have x9 := ex_new (o := .lst (nv (S.take 6))) hsl
        have hslN := (hD6.ex e8).fresh hsl
        have hS6 : 0 < (S.take 6).length := by rw [List.length_take]; have := List.length_pos_iff.mpr hS; omega
        refine ⟨_, _, rfl, d, c, sl, S.take 6, rfl, rfl, SqL.of upd_same, hslN.1, hslN.2, hS6, by rw [List.length_take]; omega, (hD6.ex e8).ex x9, fun v' H10 hv' e10 hD10 => ?_⟩
        have hv1 := hSm v' (List.mem_of_mem_take hv')
        have e010 := (e06.trans (exD_of (e8.trans x9))).trans e10
        have h10 := e10 _ _ flf.1 flf.2 ((e8.trans x9) _ _ h6)
        refine ⟨by show 1 ≤ sizeLine; decide, fun n2 hn2 => ⟨_, rfl, n2, lf, _, _, rfl, rfl, upd_same, ex_new hn2 _ _ h10, ?_, fun n3 hn3 => ?_⟩⟩
        · rw [nv_len]
          exact Nat.le_of_lt (sz_lt (by simp; omega))
        · have x11 := ex_new (o := .lst [V.int (v' : Nat)]) hn2
          have x12 := ex_new (o := .lst ([V.int (v' : Nat)] ++ nv fs)) hn3
          have e012 := e010.trans (exD_of (x11.trans x12))
          refine ⟨n3, v' :: fs, _, _, rfl, e012, hD10.ex (x11.trans x12), upd_same, ?_, fun x hx => ?_, ?_⟩
          · cases hh : H n3 with
            | none => rfl
            | some o =>
              have f3 := (hD10.ex x11).fresh hn3
              have := (e010.trans (exD_of x11)) n3 o f3.1 f3.2 hh
              rw [this] at hn3
              cases hn3
          · rcases List.mem_cons.mp hx with h | h
            · rw [h]; exact ⟨hv1.1, by omega⟩
            · exact hfs x h
          · rw [List.sum_cons]; omega
      refine ⟨_, rfl, by show 0 ≤ sizeLine; decide, fun n2 hn2 => rdNeL (ys := []) (SqL.of (ex_new hn2 _ _ (x7 _ _ h6))) (SqL.of upd_same) ⟨_, rfl, ?_⟩⟩
      have x8 := x7.trans (ex_new (o := .lst []) hn2)
      generalize (upd H7 n2 (.lst [])) = H8 at x8 ⊢
      by_cases hf0 : fs = []
      · rw [decide_eq_true hf0, Bool.not_true]
        refine ⟨_, rfl, _, rfl, by show 1 ≤ sizeLine; decide, fun n3 hn3 => rdNeL (ys := [e]) (SqL.of (ex_new hn3 _ _ (x8 _ _ hd6))) (SqL.of upd_same) ⟨_, rfl, ?_⟩⟩
        have x9 := x8.trans (ex_new (o := .lst [V.int (e : Nat)]) hn3)
        generalize (upd H8 n3 (.lst [V.int (e : Nat)])) = H9 at x9 ⊢
        by_cases hSe : S = [e]
        · rw [decide_eq_true hSe, Bool.not_true]
          exact ⟨lf, fs, _, _, rfl, stay H9 x9⟩
        · rw [decide_eq_false hSe, Bool.not_false]
          exact go H9 x9
      · rw [decide_eq_false hf0, Bool.not_false]
        exact go H8 x8
  · rintro σ H4 ⟨lf, fs, u4, u5, rfl, e4, hD4, h4, hlf, hfs, hsum⟩
    have flf := hD.fresh hlf
    have hfl := len_sum fs fun x hx => (hfs x hx).1
    refine ⟨fun μ σ H' => ∃ fs, μ = fs.length ∧ σ = [some (.ref d), some (.int (m : Nat)), some (.int (e : Nat)), some (.ref lf), u4, u5, none] ∧ ExD d c H H' ∧ Deal d c H' ∧ H' lf = some (.lst (nv fs)) ∧ (∀ x ∈ fs, 1 ≤ x ∧ x ≤ 90) ∧ fs.length ≤ 100, ⟨_, fs, rfl, rfl, e4, hD4, h4, hfs, by omega⟩, ?_⟩
    rintro μ σ H5 ⟨gs, rfl, rfl, e5, hD5, h5, hgs, hgl⟩
    refine ⟨_, rfl, by show 0 ≤ sizeLine; decide, fun n1 hn1 => rdNeL (ys := []) (SqL.of (ex_new hn1 _ _ h5)) (SqL.of upd_same) ⟨_, rfl, ?_⟩⟩
    have x6 := ex_new (o := .lst []) hn1
    have e6 := e5.trans (exD_of x6)
    have hD6 := hD5.ex x6
    have h6 := x6 _ _ h5
    generalize (upd H5 n1 (.lst [])) = H6 at x6 e6 hD6 h6 ⊢
    have fin : tRet (tTup (tCons (tCB (rTupOf K) (tCons (tVar 3) tNil)) (tCons (tVar 2) tNil))) { nx := fun _ H' => Q .non H', rt := Q } [some (.ref d), some (.int (m : Nat)), some (.int (e : Nat)), some (.ref lf), u4, u5, none] H6 :=
      ⟨_, rfl, lf, _, rfl, .inl ⟨SqL.of h6, fun q1 hq1 => ⟨_, rfl, by show 2 ≤ sizeLine; decide, fun p1 hp1 => q p1 q1 gs e _ (e6.trans (exD_of ((ex_new hq1).trans (ex_new hp1)))) (hD6.ex ((ex_new hq1).trans (ex_new hp1))) (SqT.of upd_same) (ex_t (ex_new hp1) (SqT.of upd_same)) hgs hgl he'.1 he'.2⟩⟩⟩
    rcases List.eq_nil_or_concat gs with rfl | ⟨gs1, z, rfl⟩
    · rw [decide_eq_true rfl]
      exact fin
    · rw [List.concat_eq_append] at h6 hgs hgl ⊢
      rw [decide_eq_false (show ¬ gs1 ++ [z] = [] by simp)]
      have hlast : SqL K H6 lf (nv gs1 ++ [.int (z : Nat)]) := by rw [← nv_snoc]; exact SqL.of h6
      refine ⟨_, rfl, 1, rfl, lf, _, -1, _, rfl, rfl, hlast, atI_last _ _, _, rfl, z, e, rfl, rfl, _, rfl, ?_⟩
      by_cases hze : z = e
      · rw [decide_eq_true hze]
        refine ⟨_, fun σ' H' h => h, ?_⟩
        refine ⟨_, rfl, .inl ⟨rfl, _, SqL.of h6⟩, lf, nv gs1 ++ [.int (z : Nat)], .int (z : Nat), rfl, rfl, by rw [← nv_snoc]; exact h6, ?_, ?_⟩
        · rw [List.length_append, List.length_singleton, Nat.add_sub_cancel, List.getElem?_append_right (Nat.le_refl _), Nat.sub_self]
          rfl
        · rw [List.length_append, List.length_singleton] at hgl ⊢
          refine ⟨gs1.length, by omega, gs1, rfl, rfl, e6.mut hlf, hD6.upd flf, by rw [upd_same, List.dropLast_concat], fun x hx => hgs x (List.mem_append_left _ hx), by omega⟩
      · rw [decide_eq_false hze]
        exact fin
end
end Bf
namespace Bf
open PySem PySem.Spec PyProof.Rows L2 RZ PpSet
open C8 (Cal Met Mak Def cal0 met0 mak0 pe_c pe_mk pe_mt pe_mt0 fnScope fnBody InsC call_isC tCut pss_cut)
open Evl (Ex ex_l ex_t ex_rd fresh_back sz_of sz_lt)
section
variable {P : Program} {w : World} {K : PySem.W.Frag} {mg : Str → Option Value} {base : Heap}
theorem all_nv : ∀ ys : List V, (∀ y ∈ ys, ∃ n : Nat, y = .int (n : Nat)) → ∃ ms : List Nat, ys = nv ms
  | [], _ => ⟨[], rfl⟩
  | y :: ys, h => by
    obtain ⟨n, rfl⟩ := h y List.mem_cons_self
    obtain ⟨ms, rfl⟩ := all_nv ys fun z hz => h z (List.mem_cons_of_mem _ hz)
    exact ⟨n :: ms, rfl⟩
theorem nv_inj {xs ys : List Nat} (h : nv xs = nv ys) : xs = ys := by
  refine List.map_inj_right (f := fun n : Nat => V.int (n : Int)) (fun a b e => ?_) |>.mp h
  injection e with e
  omega
theorem perm_nv {ys : List V} {xs : List Nat} (h : ys.Perm (nv xs)) : ∃ ms, ys = nv ms ∧ ms.length = xs.length ∧ ∀ x, x ∈ ms → x ∈ xs := by
  obtain ⟨ms, rfl⟩ := all_nv ys fun y hy => by
    obtain ⟨n, _, e⟩ := List.mem_map.mp (h.mem_iff.mp hy)
    exact ⟨n, e.symm⟩
  refine ⟨ms, rfl, by have := h.length_eq; rwa [nv_len, nv_len] at this, fun x hx => ?_⟩
  obtain ⟨n, hn, e⟩ := List.mem_map.mp (h.mem_iff.mp (List.mem_map.mpr ⟨x, hx, rfl⟩))
  injection e with e
  have : n = x := by omega
  exact this ▸ hn
theorem neOk_nv {d c : Addr} {H : Hp} (xs : List Nat) : NeOk K d c H (nv xs) := by
  intro ys H2 l p Q2 hys _ hl hp q
  obtain ⟨ms, rfl⟩ := all_nv ys fun y hy => by
    obtain ⟨n, _, e⟩ := List.mem_map.mp (hys y hy)
    exact ⟨n, e.symm⟩
  refine rdNeL (xs := ms) (ys := []) (SqL.of hl) (SqL.of hp) ?_
  have e : decide (ms = []) = decide (nv ms = []) := decide_eq_decide.mpr (by cases ms <;> simp)
  rw [e]
  exact q
theorem flat_rep (x : V) : ∀ n : Nat, (List.replicate n [x]).flatten = List.replicate n x
  | 0 => rfl
  | n + 1 => by rw [List.replicate_succ, List.flatten_cons, flat_rep x n, List.replicate_succ]; rfl
theorem rep_nv (x : Nat) (n : Nat) : List.replicate n (V.int (x : Nat)) = nv (List.replicate n x) := by
  show _ = List.map _ _
  rw [List.map_replicate]
theorem chg_map {n : Nat} {g : Nat → Nat} (h : ∀ s, s < n → g s < n) : Chg ((List.range n).map g) ∧ ((List.range n).map g).length = n := by
  have hl : ((List.range n).map g).length = n := by rw [List.length_map, List.length_range]
  refine ⟨fun x hx => ?_, hl⟩
  rw [hl]
  obtain ⟨s, hs, rfl⟩ := List.mem_map.mp hx
  exact h s (List.mem_range.mp hs)
theorem form_eq (n k : Nat) : decide (V.int (n : Nat) = V.int (k : Nat)) = decide (n = k) := dec_eq vi_inj
abbrev s_law_columns : Stmt := topS 70
abbrev N_law_columns : List Str := ["_law_many", "_law_deal", "_law_form", "_law_to", "_law_state"]
theorem sc_law_columns : FnScope N_law_columns ["_law_many", "_law_deal", "_law_form"] (fnScope s_law_columns) := ⟨rfl, rfl, rfl, by decide +kernel, rfl, by decide +kernel, by decide +kernel⟩
def spColumns (K : PySem.W.Frag) : Sp := sp3 fun x y z H Q => ∃ d c, ∃ n k : Nat, x = .int n ∧ y = .ref d ∧ z = .int k ∧ 1 ≤ n ∧ n ≤ 100 ∧ Deal d c H ∧ ∀ p f H', ExD d c H H' → Deal d c H' → SqT K H' p (nv f) → Chg f → f.length = n → Q (.ref p) H'
theorem c_law_columns (d : DefB K mg "_law_columns" s_law_columns ["_law_many", "_law_deal", "_law_form"]) (Z : Zb mg) (c_law_any : Cal P w K mg base 1 "_law_any" spAny []) (c_law_mixed : Cal P w K mg base 2 "_law_mixed" (spMixed K) []) :
    Cal P w K mg base 3 "_law_columns" (spColumns K) [] := by
  refine cal_of d sc_law_columns len3 fun vs0 H Q E h f0 cdv A outer s0 E' hr => ?_
  obtain ⟨x, y, z, rfl, d, c, n, k, rfl, rfl, rfl, hn, hnz, hD, q⟩ := h
  refine ⟨_, (pss_cons (ps_set (i := 3) sc_law_columns.nd rfl (Or.inr rfl) (pe_c c_law_any hr (by decide) (by rfl) (pa_cons (pv 1) (pa_cons (pv 0) pa_nil))))
      (pss_cons (ps_if (pt_cmpR op_eq (pv 2) pe_int (nomark _))
        (pss_one (ps_ret (pe_callTy (call_tupK K) (by rfl) Z.tuple_ (by decide +kernel) (pa_cons (pe_lc (own := [("_law_state", 4)]) rfl sc_law_columns.nd (pi_range1 (by rfl) Z.range (pa_cons (pv 0) pa_nil)) (blkOk_by (own := [("_law_state", 4)]) (N := N_law_columns) (sc := fnScope s_law_columns) (by decide +kernel)) (fun _ _ _ _ _ => (pg_name (i := 4) sc_law_columns.nd rfl (Or.inl rfl))) (fun _ _ _ _ _ => pts_nil) (fun _ _ _ _ _ => (pe_callB (call_max2 rfl) (by rfl) Z.max_ (by decide +kernel) (pa_cons pe_int (pa_cons (pe_op op_sub (pv 4) pe_int) pa_nil))))) pa_nil))))
        pss_nil)
      (pss_cons (ps_if (pt_cmpR op_eq (pv 2) pe_int (nomark _))
        (pss_one (ps_ret (pe_callTy (call_tupK K) (by rfl) Z.tuple_ (by decide +kernel) (pa_cons (pe_lc (own := [("_law_state", 4)]) rfl sc_law_columns.nd (pi_range1 (by rfl) Z.range (pa_cons (pv 0) pa_nil)) (blkOk_by (own := [("_law_state", 4)]) (N := N_law_columns) (sc := fnScope s_law_columns) (by decide +kernel)) (fun _ _ _ _ _ => (pg_name (i := 4) sc_law_columns.nd rfl (Or.inl rfl))) (fun _ _ _ _ _ => pts_nil) (fun _ _ _ _ _ => (pe_callB (call_min2 rfl) (by rfl) Z.min_ (by decide +kernel) (pa_cons (pe_op op_sub (pv 0) pe_int) (pa_cons (pe_op op_add (pe_op op_add (pv 4) pe_int) (pe_op op_modN (pv 3) pe_int)) pa_nil))))) pa_nil))))
        pss_nil)
      (pss_cons (ps_if (pt_cmpR op_eq (pv 2) pe_int (nomark _))
        (pss_one (ps_ret (pe_callTy (call_tupK K) (by rfl) Z.tuple_ (by decide +kernel) (pa_cons (pe_lc (own := [("_law_state", 4)]) rfl sc_law_columns.nd (pi_range1 (by rfl) Z.range (pa_cons (pv 0) pa_nil)) (blkOk_by (own := [("_law_state", 4)]) (N := N_law_columns) (sc := fnScope s_law_columns) (by decide +kernel)) (fun _ _ _ _ _ => (pg_name (i := 4) sc_law_columns.nd rfl (Or.inl rfl))) (fun _ _ _ _ _ => pts_nil) (fun _ _ _ _ _ => (pe_op op_modN (pe_callTy call_int1 (by rfl) Z.int_ (by decide +kernel) (pa_cons (pe_op op_add (pv 4) (pv 3)) pa_nil)) (pv 0)))) pa_nil))))
        pss_nil)
      (pss_cons (ps_if (pt_cmpR op_eq (pv 2) pe_int (nomark _))
        (pss_one (ps_ret (pe_callTy (call_tupK K) (by rfl) Z.tuple_ (by decide +kernel) (pa_cons (pe_op op_rep (pe_lst (pa_cons (pv 3) pa_nil)) (pv 0)) pa_nil))))
        pss_nil)
      (pss_cons (ps_if (pt_cmpR op_eq (pv 2) pe_int (nomark _))
        (pss_one (ps_ret (pe_callTy (call_tupK K) (by rfl) Z.tuple_ (by decide +kernel) (pa_cons (pe_c c_law_mixed hr (by decide) (by rfl) (pa_cons (pv 1) (pa_cons (pe_listRg rfl (by rfl) Z.list_ (prg_1 rfl Z.range (pv 0))) pa_nil))) pa_nil))))
        pss_nil)
      (pss_cons (ps_if (pt_cmpR op_eq (pv 2) pe_int (nomark _))
        (pss_one (ps_ret (pe_callTy (call_tupK K) (by rfl) Z.tuple_ (by decide +kernel) (pa_cons (pe_lc (own := [("_law_state", 4)]) rfl sc_law_columns.nd (pi_range1 (by rfl) Z.range (pa_cons (pv 0) pa_nil)) (blkOk_by (own := [("_law_state", 4)]) (N := N_law_columns) (sc := fnScope s_law_columns) (by decide +kernel)) (fun _ _ _ _ _ => (pg_name (i := 4) sc_law_columns.nd rfl (Or.inl rfl))) (fun _ _ _ _ _ => pts_nil) (fun _ _ _ _ _ => (pe_callB (call_max2 rfl) (by rfl) Z.max_ (by decide +kernel) (pa_cons pe_int (pa_cons (pe_op op_sub (pe_op op_sub (pv 4) pe_int) (pe_op op_modN (pv 3) pe_int)) pa_nil))))) pa_nil))))
        pss_nil)
      (pss_one (ps_ret (pe_callTy (call_tupK K) (by rfl) Z.tuple_ (by decide +kernel) (pa_cons (pe_lc (own := [("_law_state", 4)]) rfl sc_law_columns.nd (pi_range1 (by rfl) Z.range (pa_cons (pv 0) pa_nil)) (blkOk_by (own := [("_law_state", 4)]) (N := N_law_columns) (sc := fnScope s_law_columns) (by decide +kernel)) (fun _ _ _ _ _ => (pg_name (i := 4) sc_law_columns.nd rfl (Or.inl rfl))) (fun _ _ _ _ _ => pts_nil) (fun _ _ _ _ _ => (pe_c c_law_any hr (by decide) (by rfl) (pa_cons (pv 1) (pa_cons (pv 0) pa_nil))))) pa_nil))))))))))), ?_⟩
  refine ⟨_, rfl, _, rfl, _, _, rfl, d, c, n, rfl, rfl, hn, by omega, hD, fun t H1 ht e1 hD1 => ?_⟩
  have fin : ∀ (D : Addr) (f : List Nat) (H2 : Hp), Ex H1 H2 → H2 D = some (.lst (nv f)) → (Chg f ∧ f.length = n) → rTupOf K [.ref D] H2 Q := fun D f H2 e2 hd hc =>
    ⟨D, _, rfl, .inl ⟨SqL.of hd, fun p hp => q p f _ (e1.trans (exD_of (e2.trans (ex_new hp)))) (hD1.ex (e2.trans (ex_new hp))) (SqT.of upd_same) hc.1 hc.2⟩⟩
  refine ⟨_, rfl, rfl, _, rfl, ?_⟩
  rw [show decide (V.int (k : Nat) = V.int 0) = decide (k = 0) from form_eq k 0]
  by_cases h0 : k = 0
  · rw [decide_eq_true h0]
    refine ⟨_, rfl, n, rfl, by omega, by omega, fun D hD' => cmR (n := n) (fun i acc _ => acc = nv ((List.range i).map fun s => s - 1)) (steady_val _) hD' rfl (by omega) ?_ ?_⟩
    · intro i hi acc H2 QF QT e hd p kF kT
      refine ⟨rfl, _, rfl, i, 1, rfl, rfl, 0, _, rfl, kT _ _ (Ex.refl _) ?_⟩
      show acc ++ [V.int (if (i : Int) - 1 > 0 then (i : Int) - 1 else 0)] = nv ((List.range (i + 1)).map fun s => s - 1)
      rw [show acc = _ from p, List.range_succ, List.map_append, show (if (i : Int) - 1 > 0 then (i : Int) - 1 else 0) = ((i - 1 : Nat) : Int) by split <;> omega]
      exact (nv_snoc _ _).symm
    · intro acc H2 e hd p
      have p' : acc = nv ((List.range n).map fun s => s - 1) := p
      subst p'
      exact fin D _ H2 e hd (chg_map fun s hs => by omega)
  rw [decide_eq_false h0]
  refine ⟨_, rfl, rfl, _, rfl, ?_⟩
  rw [show decide (V.int (k : Nat) = V.int 1) = decide (k = 1) from form_eq k 1]
  by_cases h1 : k = 1
  · rw [decide_eq_true h1]
    refine ⟨_, rfl, n, rfl, by omega, by omega, fun D hD' => cmR (n := n) (fun i acc _ => acc = nv ((List.range i).map fun s => min (n - 1) (s + 1 + t % 2))) (steady_val _) hD' rfl (by omega) ?_ ?_⟩
    · intro i hi acc H2 QF QT e hd p kF kT
      refine ⟨rfl, _, rfl, n, 1, rfl, rfl, _, rfl, i, 1, rfl, rfl, _, rfl, t, 2, rfl, rfl, by show (2 : Int) ≠ 0; decide, _, _, rfl, rfl, _, _, rfl, kT _ _ (Ex.refl _) ?_⟩
      show acc ++ [V.int (if (i : Int) + 1 + Int.fmod (t : Int) 2 < (n : Int) - 1 then (i : Int) + 1 + Int.fmod (t : Int) 2 else (n : Int) - 1)] = nv ((List.range (i + 1)).map fun s => min (n - 1) (s + 1 + t % 2))
      rw [show acc = _ from p, List.range_succ, List.map_append, show (if (i : Int) + 1 + Int.fmod (t : Int) 2 < (n : Int) - 1 then (i : Int) + 1 + Int.fmod (t : Int) 2 else (n : Int) - 1) = ((min (n - 1) (i + 1 + t % 2) : Nat) : Int) by
        rw [Int.fmod_eq_emod_of_nonneg _ (by decide)]
        split <;> omega]
      exact (nv_snoc _ _).symm
    · intro acc H2 e hd p
      have p' : acc = nv ((List.range n).map fun s => min (n - 1) (s + 1 + t % 2)) := p
      subst p'
      exact fin D _ H2 e hd (chg_map fun s hs => by omega)
  rw [decide_eq_false h1]
  refine ⟨_, rfl, rfl, _, rfl, ?_⟩
  rw [show decide (V.int (k : Nat) = V.int 2) = decide (k = 2) from form_eq k 2]
  by_cases h2 : k = 2
  · rw [decide_eq_true h2]
    refine ⟨_, rfl, n, rfl, by omega, by omega, fun D hD' => cmR (n := n) (fun i acc _ => acc = nv ((List.range i).map fun s => (s + t) % n)) (steady_val _) hD' rfl (by omega) ?_ ?_⟩
    · intro i hi acc H2 QF QT e hd p kF kT
      refine ⟨rfl, _, rfl, _, rfl, i, t, rfl, rfl, .inl ⟨_, rfl, _, rfl, _, n, rfl, rfl, by show (n : Int) ≠ 0; omega, kT _ _ (Ex.refl _) ?_⟩⟩
      show acc ++ [V.int (Int.fmod ((i : Int) + t) n)] = nv ((List.range (i + 1)).map fun s => (s + t) % n)
      rw [show acc = _ from p, List.range_succ, List.map_append, Int.fmod_eq_emod_of_nonneg _ (by omega)]
      exact (nv_snoc _ _).symm
    · intro acc H2 e hd p
      have p' : acc = nv ((List.range n).map fun s => (s + t) % n) := p
      subst p'
      exact fin D _ H2 e hd (chg_map fun s hs => Nat.mod_lt _ (by omega))
  rw [decide_eq_false h2]
  refine ⟨_, rfl, rfl, _, rfl, ?_⟩
  rw [show decide (V.int (k : Nat) = V.int 3) = decide (k = 3) from form_eq k 3]
  by_cases h3 : k = 3
  · rw [decide_eq_true h3]
    refine ⟨_, rfl, by show 1 ≤ sizeLine; decide, fun l hl => ⟨_, rfl, l, n, _, rfl, rfl, upd_same, by omega, by omega, ?_, fun p hp => ?_⟩⟩
    · show 1 * (n : Int).toNat ≤ sizeLine
      exact Nat.le_of_lt (sz_lt (by omega))
    · rw [Int.toNat_natCast, flat_rep, rep_nv]
      have x2 := (ex_new (o := .lst [V.int (t : Nat)]) hl).trans (ex_new (o := .lst (nv (List.replicate n t))) hp)
      refine fin p (List.replicate n t) _ x2 upd_same ⟨fun x hx => ?_, List.length_replicate⟩
      rw [List.eq_of_mem_replicate hx, List.length_replicate]
      exact ht
  rw [decide_eq_false h3]
  refine ⟨_, rfl, rfl, _, rfl, ?_⟩
  rw [show decide (V.int (k : Nat) = V.int 4) = decide (k = 4) from form_eq k 4]
  by_cases h4 : k = 4
  · rw [decide_eq_true h4]
    refine ⟨_, rfl, _, rfl, n, rfl, .of_le (by omega) (by omega) (by omega) (by omega), fun l hl => ?_⟩
    have x2 := ex_new (o := .lst (rgV 0 (n : Nat))) hl
    have hl' : (upd H1 l (.lst (rgV 0 (n : Nat)))) l = some (.lst (nv (List.range n))) := by rw [upd_same, rgV_nat]
    generalize (upd H1 l (.lst (rgV 0 (n : Nat)))) = H2 at x2 hl' ⊢
    refine ⟨_, _, rfl, d, c, l, _, rfl, rfl, SqL.of hl', by rw [nv_len, List.length_range]; omega, hD1.ex x2, neOk_nv _, fun p ys H3 e3 hD3 _ hp hperm => ?_⟩
    obtain ⟨ms, rfl, hml, hmm⟩ := perm_nv hperm
    rw [List.length_range] at hml
    refine ⟨p, _, rfl, .inl ⟨SqL.of hp, fun p2 hp2 => q p2 ms _ ((e1.trans (exD_of x2)).trans (e3.trans (exD_of (ex_new hp2)))) (hD3.ex (ex_new hp2)) (SqT.of upd_same) (fun x hx => ?_) hml⟩⟩
    rw [hml]
    exact List.mem_range.mp (hmm x hx)
  rw [decide_eq_false h4]
  refine ⟨_, rfl, rfl, _, rfl, ?_⟩
  rw [show decide (V.int (k : Nat) = V.int 5) = decide (k = 5) from form_eq k 5]
  by_cases h5 : k = 5
  · rw [decide_eq_true h5]
    refine ⟨_, rfl, n, rfl, by omega, by omega, fun D hD' => cmR (n := n) (fun i acc _ => acc = nv ((List.range i).map fun s => s - 1 - t % 2)) (steady_val _) hD' rfl (by omega) ?_ ?_⟩
    · intro i hi acc H2 QF QT e hd p kF kT
      refine ⟨rfl, _, rfl, i, 1, rfl, rfl, _, rfl, t, 2, rfl, rfl, by show (2 : Int) ≠ 0; decide, _, _, rfl, rfl, 0, _, rfl, kT _ _ (Ex.refl _) ?_⟩
      show acc ++ [V.int (if (i : Int) - 1 - Int.fmod (t : Int) 2 > 0 then (i : Int) - 1 - Int.fmod (t : Int) 2 else 0)] = nv ((List.range (i + 1)).map fun s => s - 1 - t % 2)
      rw [show acc = _ from p, List.range_succ, List.map_append, show (if (i : Int) - 1 - Int.fmod (t : Int) 2 > 0 then (i : Int) - 1 - Int.fmod (t : Int) 2 else 0) = ((i - 1 - t % 2 : Nat) : Int) by
        rw [Int.fmod_eq_emod_of_nonneg _ (by decide)]
        split <;> omega]
      exact (nv_snoc _ _).symm
    · intro acc H2 e hd p
      have p' : acc = nv ((List.range n).map fun s => s - 1 - t % 2) := p
      subst p'
      exact fin D _ H2 e hd (chg_map fun s hs => by omega)
  rw [decide_eq_false h5]
  refine ⟨_, rfl, n, rfl, by omega, by omega, fun D hDn => lc_rng (n := n) (fun i H' => ∃ f, ExD d c H H' ∧ Deal d c H' ∧ H' D = some (.lst (nv f)) ∧ f.length = i ∧ ∀ x ∈ f, x < n) ⟨[], e1.trans (exD_of (ex_new hDn)), hD1.ex (ex_new hDn), upd_same, rfl, fun x hx => absurd hx List.not_mem_nil⟩ ?_ ?_⟩
  · rintro i H2 hi ⟨f, e2, hD2, hd, hfl, hfn⟩
    have fD := hD1.fresh hDn
    refine ⟨rfl, _, rfl, _, rfl, _, _, rfl, d, c, n, rfl, rfl, hn, by omega, hD2, fun v H3 hv e3 hD3 => ⟨nv f, e3 _ _ fD.1 fD.2 hd, sz_lt (by rw [nv_len]; omega), ?_⟩⟩
    refine ⟨f ++ [v], ?_, hD3.upd fD, by rw [upd_same, nv_snoc], by rw [List.length_append, List.length_singleton, hfl], fun x hx => ?_⟩
    · have hDH : H D = none := by
        cases hh : H D with
        | none => rfl
        | some o =>
          have := e1 D o fD.1 fD.2 hh
          rw [this] at hDn
          cases hDn
      exact (e2.trans e3).mut hDH
    · rcases List.mem_append.mp hx with h | h
      · exact hfn x h
      · rw [List.mem_singleton.mp h]; exact hv
  · rintro H2 ⟨f, e2, hD2, hd, hfl, hfn⟩
    refine ⟨D, _, rfl, .inl ⟨SqL.of hd, fun p hp => q p f _ (e2.trans (exD_of (ex_new hp))) (hD2.ex (ex_new hp)) (SqT.of upd_same) (fun x hx => by rw [hfl]; exact hfn x hx) hfl⟩⟩
end
end Bf
namespace Bf
open PySem PySem.Spec PyProof.Rows L2 RZ PpSet
open C8 (Cal Met Mak Def cal0 met0 mak0 pe_c pe_mk pe_mt pe_mt0 fnScope fnBody InsC call_isC tCut pss_cut)
open Evl (Ex ex_l ex_t ex_rd fresh_back sz_of sz_lt)
section
variable {P : Program} {w : World} {K : PySem.W.Frag} {mg : Str → Option Value} {base : Heap}
/-! ### lists of changes -/
def tD (cs : List (List Nat)) : List PyData := cs.map fun f => .tuple (nD f)
theorem dpT {H : Hp} : ∀ {vs : List V} {cs : List (List Nat)}, Tups K H vs cs → DpAll K H vs (tD cs)
  | [], [], _ => .nil
  | [], _ :: _, h => by have := h.1; simp at this
  | _ :: _, [], h => by have := h.1; simp at this
  | v :: vs, f :: cs, h => by
    obtain ⟨p, h1, h2⟩ := h.2 0 f rfl
    have h1 : v = .ref p := Option.some.inj h1
    subst h1
    exact .cons (.tup h2 (dpN f)) (dpT ⟨Nat.succ.inj h.1, fun i xs hi => h.2 (i + 1) xs hi⟩)
theorem canT : ∀ cs : List (List Nat), PyData.canLayAll0 (tD cs) = true
  | [] => rfl
  | f :: cs => by
    show (PyData.canLay0 (.tuple (nD f)) && PyData.canLayAll0 (tD cs)) = true
    rw [canT cs]
    have : PyData.canLay0 (.tuple (nD f)) = true := canN f
    rw [this]
    rfl
theorem depT : ∀ cs : List (List Nat), PyData.depthAll (tD cs) ≤ 1
  | [] => Nat.zero_le 1
  | f :: cs => by
    show max (PyData.depth (.tuple (nD f))) (PyData.depthAll (tD cs)) ≤ 1
    have h2 : PyData.depth (.tuple (nD f)) = 1 := by
      show PyData.depthAll (nD f) + 1 = 1
      rw [depN]
    rw [h2]
    exact Nat.max_le.mpr ⟨Nat.le_refl 1, depT cs⟩
theorem shTL (cs : List (List Nat)) : SeqAt.shaped (.list (tD cs)) = true := by
  show (PyData.canLayAll0 (tD cs) && decide (PyData.depthAll (tD cs) + 1 ≤ 64)) = true
  have := depT cs
  rw [canT, decide_eq_true (by omega)]
  rfl
theorem eqT0 (cs : List (List Nat)) : PyData.eqv (.list (tD cs)) (.list []) = decide (cs = []) := by
  cases cs with
  | nil => rfl
  | cons f cs => rfl
theorem rdEq0 {H : Hp} {a b : Addr} {vs : List V} {cs : List (List Nat)} {Q : VK} (ha : H a = some (.lst vs)) (ht : Tups K H vs cs) (hb : H b = some (.lst [])) (q : Q (.bl (decide (cs = []))) H) : rEqD K (.ref a) (.ref b) H Q :=
  ⟨.list (tD cs), .list [], .lst (SqL.of ha) (dpT ht), .lst (SqL.of hb) .nil, shTL cs, rfl, by rw [eqT0]; exact q⟩
theorem rdNe0 {H : Hp} {a b : Addr} {vs : List V} {cs : List (List Nat)} {Q : VK} (ha : H a = some (.lst vs)) (ht : Tups K H vs cs) (hb : H b = some (.lst [])) (q : Q (.bl (!decide (cs = []))) H) : rNeD K (.ref a) (.ref b) H Q :=
  ⟨.list (tD cs), .list [], .lst (SqL.of ha) (dpT ht), .lst (SqL.of hb) .nil, shTL cs, rfl, by rw [eqT0]; exact q⟩
theorem all_tups {H : Hp} {G : List Nat → Prop} : ∀ ys : List V, (∀ y ∈ ys, ∃ p f, y = V.ref p ∧ SqT K H p (nv f) ∧ G f) → ∃ cs, Tups K H ys cs ∧ ∀ f ∈ cs, G f
  | [], _ => ⟨[], Tups.nil, fun f h => absurd h List.not_mem_nil⟩
  | y :: ys, h => by
    obtain ⟨p, f, rfl, h1, h2⟩ := h y List.mem_cons_self
    obtain ⟨cs, h3, h4⟩ := all_tups ys fun z hz => h z (List.mem_cons_of_mem _ hz)
    refine ⟨f :: cs, ⟨congrArg Nat.succ h3.1, fun i xs hi => ?_⟩, fun g hg => ?_⟩
    · cases i with
      | zero =>
        have hi : f = xs := Option.some.inj hi
        subst hi
        exact ⟨p, rfl, h1⟩
      | succ i => exact h3.2 i xs hi
    · rcases List.mem_cons.mp hg with rfl | hg
      · exact h2
      · exact h4 g hg
theorem Tups.each {H : Hp} {vs : List V} {cs : List (List Nat)} (h : Tups K H vs cs) {y : V} (hy : y ∈ vs) : ∃ p f, y = V.ref p ∧ SqT K H p (nv f) ∧ f ∈ cs := by
  obtain ⟨i, hi⟩ := List.getElem?_of_mem hy
  have hb := (List.getElem?_eq_some_iff.mp hi).1
  have hb2 : i < cs.length := by rw [← h.1]; exact hb
  obtain ⟨p, h1, h2⟩ := h.2 i cs[i] (List.getElem?_eq_getElem hb2)
  rw [hi] at h1
  exact ⟨p, _, Option.some.inj h1, h2, List.getElem_mem _⟩
theorem neOk_tups {d c : Addr} {H : Hp} {vs : List V} {cs : List (List Nat)} (hD : Deal d c H) (h : Tups K H vs cs) : NeOk K d c H vs := by
  intro ys H2 l p Q2 hys e hl hp q
  obtain ⟨ds, h1, _⟩ := all_tups (K := K) (H := H2) (G := fun _ => True) ys fun y hy => by
    obtain ⟨p, f, h1, h2, _⟩ := h.each (hys y hy)
    exact ⟨p, f, h1, exD_t hD e h2, trivial⟩
  refine rdNe0 hl h1 hp ?_
  have e : decide (ds = []) = decide (ys = []) := decide_eq_decide.mpr (by
    rw [← List.length_eq_zero_iff, ← List.length_eq_zero_iff, h1.1])
  rw [e]
  exact q
/-- changes of N states -/
def Cm (N : Nat) (cs : List (List Nat)) : Prop := ∀ f ∈ cs, Chg f ∧ f.length = N
/-- the rows of the machine with these commands -/
def tr (cs : List (List Nat)) (N : Nat) : List (List Nat) := (List.range N).map fun s => cs.map fun f => ap f s
theorem tr_len (cs : List (List Nat)) (N : Nat) : (tr cs N).length = N := by unfold tr; rw [List.length_map, List.length_range]
theorem tr_mw {cs : List (List Nat)} {N : Nat} (h : Cm N cs) (h1 : 1 ≤ N) (h2 : N ≤ 1000) (c1 : 1 ≤ cs.length) (c2 : cs.length ≤ 1000) : MW cs.length (tr cs N) := by
  refine ⟨c1, c2, by rw [tr_len]; exact h1, by rw [tr_len]; exact h2, fun r hr => ?_, fun r hr x hx => ?_⟩
  · obtain ⟨s, _, rfl⟩ := List.mem_map.mp hr
    rw [List.length_map]
  · obtain ⟨s, hs, rfl⟩ := List.mem_map.mp hr
    obtain ⟨f, hf, rfl⟩ := List.mem_map.mp hx
    obtain ⟨g1, g2⟩ := h f hf
    rw [tr_len]
    have := ap_lt g1 (s := s) (by rw [g2]; exact List.mem_range.mp hs)
    rwa [g2] at this
theorem tr_col {cs : List (List Nat)} {N k : Nat} {f : List Nat} (h : Cm N cs) (hk : cs[k]? = some f) : col (tr cs N) k = f := by
  have g := (h f (List.mem_of_getElem? hk)).2
  refine List.ext_getElem (by rw [col_len, tr_len, g]) fun s h1 h2 => ?_
  have hs : s < N := by rw [← g]; exact h2
  have e1 : (tr cs N)[s]? = some (cs.map fun f => ap f s) := by
    unfold tr
    rw [List.getElem?_map, List.getElem?_range hs]
    rfl
  have e2 := col_ap (k := k) e1
  rw [List.getD_eq_getElem?_getD, List.getElem?_map, hk] at e2
  have e3 := ap_get h1
  rw [List.getElem?_eq_getElem h1, e2] at e3
  have e4 := ap_get h2
  rw [List.getElem?_eq_getElem h2] at e4
  exact (Option.some.inj e3).trans (Option.some.inj e4).symm
abbrev s_law_steps : Stmt := topS 72
abbrev N_law_steps : List Str := ["_law_some", "_law_state", "_law_change"]
theorem sc_law_steps : FnScope N_law_steps ["_law_some"] (fnScope s_law_steps) := ⟨rfl, rfl, rfl, by decide +kernel, rfl, by decide +kernel, by decide +kernel⟩
def SeqsN (D : Addr) (H : Hp) (vs : List V) (xss : List (List Nat)) : Prop := vs.length = xss.length ∧ ∀ (i : Nat) (xs : List Nat), xss[i]? = some xs → ∃ p : Addr, vs[i]? = some (V.ref p) ∧ p ≠ D ∧ H p = some (.lst (nv xs))
theorem SeqsN.snoc {D p : Addr} {H : Hp} {vs : List V} {xss : List (List Nat)} {xs : List Nat} (h : SeqsN D H vs xss) (hp : H p = some (.lst (nv xs))) (n : p ≠ D) : SeqsN D H (vs ++ [V.ref p]) (xss ++ [xs]) := by
  refine ⟨by rw [List.length_append, List.length_append, h.1] <;> rfl, fun i ys hi => ?_⟩
  by_cases hl : i < xss.length
  · rw [List.getElem?_append_left hl] at hi
    rw [List.getElem?_append_left (by rw [h.1]; exact hl)]
    exact h.2 i ys hi
  · have hb := (List.getElem?_eq_some_iff.mp hi).1
    rw [List.length_append, List.length_singleton] at hb
    have e : i = xss.length := by omega
    subst e
    rw [List.getElem?_append_right (Nat.le_refl _), Nat.sub_self] at hi
    cases hi
    exact ⟨p, by rw [← h.1, List.getElem?_append_right (Nat.le_refl _), Nat.sub_self]; rfl, n, hp⟩
def spSteps (K : PySem.W.Frag) : Sp := sp1 fun x H Q => ∃ l vs cs N, x = .ref l ∧ H l = some (.lst vs) ∧ Tups K H vs cs ∧ Cm N cs ∧ 1 ≤ cs.length ∧ cs.length ≤ 1000 ∧ N ≤ 1000 ∧ ∀ p vs2 H', Ex H H' → H' p = some (.lst vs2) → Seqs K H' vs2 (tr cs N) → Q (.ref p) H'
theorem c_law_steps (d : DefB K mg "_law_steps" s_law_steps ["_law_some"]) (Z : Zb mg) : Cal P w K mg base 1 "_law_steps" (spSteps K) [] := by
  refine cal_of d sc_law_steps len1 fun vs0 H Q E h f0 cdv A outer s0 E' hr => ?_
  obtain ⟨x, rfl, l, vs, cs, N, rfl, hl, ht, hC, c1, c2, hN, q⟩ := h
  refine ⟨_, (pss_one (ps_ret (pe_lc (own := [("_law_state", 1)]) rfl sc_law_steps.nd (pi_range1 (by rfl) Z.range (pa_cons (pe_callB (call_lenK K) (by rfl) Z.len (by decide +kernel) (pa_cons (pe_ix (ix_listK K) (pv 0) pe_int (fun _ _ => rfl)) pa_nil)) pa_nil)) (blkOk_by (own := [("_law_state", 1)]) (N := N_law_steps) (sc := fnScope s_law_steps) (by decide +kernel)) (fun _ _ _ _ _ => (pg_name (i := 1) sc_law_steps.nd rfl (Or.inr rfl))) (fun _ _ _ _ _ => pts_nil) (fun _ _ _ _ _ => (pe_lc (own := [("_law_change", 2)]) rfl sc_law_steps.nd (pi_listK K rfl (pv 0)) (blkOk_by (own := [("_law_change", 2)]) (N := N_law_steps) (by with_unfolding_all rfl)) (fun _ _ _ _ _ => (pg_name (i := 2) sc_law_steps.nd rfl (Or.inl rfl))) (fun _ _ _ _ _ => pts_nil) (fun _ _ _ _ _ => (pe_ix (ix_tupK K) (pv 2) (pv 1) (fun _ _ => rfl)))))))), ?_⟩
  have hvl := ht.1
  obtain ⟨p0, g1, g2⟩ := ht.2 0 cs[0] (List.getElem?_eq_getElem c1)
  have g3 := (hC _ (List.getElem_mem (h := c1))).2
  refine ⟨_, rfl, l, _, 0, _, rfl, rfl, SqL.of hl, atI_nat (j := 0) g1, p0, _, rfl, .inr g2, N, by rw [nv_len, g3], by omega, by omega, fun D hD => cmR (n := N) (fun i acc H' => SeqsN D H' acc ((tr cs N).take i)) ?_ hD ⟨rfl, fun i xs hi => by simp at hi⟩ (by omega) ?_ ?_⟩
  · intro i acc zs zs' H' hd p
    refine ⟨p.1, fun j xs hj => ?_⟩
    obtain ⟨pp, h1, h2, h3⟩ := p.2 j xs hj
    exact ⟨pp, h1, h2, by rw [upd_ne h2]; exact h3⟩
  · intro i hi acc H2 QF QT e hd p kF kT
    have hl2 := e _ _ hl
    have ht2 := ht.ex e
    refine ⟨rfl, _, rfl, l, rfl, ⟨_, SqL.of hl2⟩, fun D2 hD2 => cmL (fun j acc _ => acc = nv ((cs.take j).map fun f => ap f i)) (steady_val _) hD2 rfl (SqL.of hl2) (by omega) ?_ ?_⟩
    · intro j x hj acc2 H3 QF2 QT2 e3 hd3 p3 kF3 kT3
      have hjl : j < cs.length := by rw [← hvl]; exact (List.getElem?_eq_some_iff.mp hj).1
      obtain ⟨pp, h1, h2⟩ := ht2.2 j cs[j] (List.getElem?_eq_getElem hjl)
      rw [hj] at h1
      cases h1
      have hil : i < cs[j].length := by rw [(hC _ (List.getElem_mem hjl)).2]; exact hi
      refine ⟨rfl, _, rfl, _, rfl, pp, _, i, _, rfl, rfl, ex_t e3 h2, atI_nat (nv_get (ap_get hil)), kT3 _ _ (Ex.refl _) ?_⟩
      show acc2 ++ [V.int (ap cs[j] i : Nat)] = nv ((cs.take (j + 1)).map fun f => ap f i)
      rw [show acc2 = _ from p3, tk (List.getElem?_eq_getElem hjl), List.map_append]
      exact (nv_snoc _ _).symm
    · intro acc2 H3 e3 hd3 p3
      have p3' : acc2 = nv ((cs.take vs.length).map fun f => ap f i) := p3
      rw [hvl, List.take_length] at p3'
      subst p3'
      refine kT _ _ e3 ?_
      have e2 : (tr cs N)[i]? = some (cs.map fun f => ap f i) := by
        unfold tr
        rw [List.getElem?_map, List.getElem?_range hi]
        rfl
      show SeqsN D H3 _ ((tr cs N).take (i + 1))
      rw [tk e2]
      refine SeqsN.snoc ⟨p.1, fun j xs hj => ?_⟩ hd3 (fun z => by rw [z, hd] at hD2; cases hD2)
      obtain ⟨pp, h1, h2, h3⟩ := p.2 j xs hj
      exact ⟨pp, h1, h2, e3 _ _ h3⟩
  · intro acc H2 e hd p
    have p' : SeqsN D H2 acc ((tr cs N).take N) := p
    rw [List.take_of_length_le (by rw [tr_len]; exact Nat.le_refl N)] at p'
    exact q D acc H2 e hd ⟨p'.1, fun j xs hj => let ⟨pp, h1, _, h3⟩ := p'.2 j xs hj; ⟨pp, h1, .inl (SqL.of h3)⟩⟩
abbrev s_law_done : Stmt := topS 73
abbrev N_law_done : List Str := ["_law_some", "_law_row", "_law_found", "_law_command"]
theorem sc_law_done : FnScope N_law_done ["_law_some", "_law_row"] (fnScope s_law_done) := ⟨rfl, rfl, rfl, by decide +kernel, rfl, by decide +kernel, by decide +kernel⟩
def spDone (K : PySem.W.Frag) : Sp := sp2 fun x y H Q => ∃ l a vs cs N row, x = .ref l ∧ y = .ref a ∧ H l = some (.lst vs) ∧ Tups K H vs cs ∧ Cm N cs ∧ 1 ≤ cs.length ∧ cs.length ≤ 1000 ∧ N ≤ 1000 ∧ SqT K H a (nv row) ∧ (∀ k ∈ row, k < cs.length) ∧ RetT K (nv (chOf (tr cs N) row)) H Q
theorem c_law_done (d : DefB K mg "_law_done" s_law_done ["_law_some", "_law_row"]) (Z : Zb mg) (c_law_then : Cal P w K mg base 1 "_law_then" (spThen K) []) : Cal P w K mg base 2 "_law_done" (spDone K) [] := by
  refine cal_of d sc_law_done len2 fun vs0 H Q E h f0 cdv A outer s0 E' hr => ?_
  obtain ⟨x, y, rfl, l, a, vs, cs, N, row, rfl, rfl, hl, ht, hC, c1, c2, hN, ha, hrow, q⟩ := h
  refine ⟨_, (pss_cons (ps_set (i := 2) sc_law_done.nd rfl (Or.inl rfl) (pe_callTy (call_tupK K) (by rfl) Z.tuple_ (by decide +kernel) (pa_cons (pe_listRg rfl (by rfl) Z.list_ (prg_1 rfl Z.range (pe_callB (call_lenK K) (by rfl) Z.len (by decide +kernel) (pa_cons (pe_ix (ix_listK K) (pv 0) pe_int (fun _ _ => rfl)) pa_nil)))) pa_nil)))
      (pss_cons (ps_for PassesOwn.never rfl (pi_tupK K rfl (pv 1)) (pg_name (i := 3) sc_law_done.nd rfl (Or.inl rfl))
        (pss_one (ps_set (i := 2) sc_law_done.nd rfl (Or.inl rfl) (pe_c c_law_then hr (by decide) (by rfl) (pa_cons (pv 2) (pa_cons (pe_ix (ix_listK K) (pv 0) (pv 3) (fun _ _ => rfl)) pa_nil))))))
      (pss_one (ps_ret (pv 2))))), ?_⟩
  obtain ⟨p0, g1, g2⟩ := ht.2 0 cs[0] (List.getElem?_eq_getElem c1)
  have g3 := (hC _ (List.getElem_mem (h := c1))).2
  have hN1 : N = 0 ∨ 1 ≤ N := by omega
  refine ⟨_, rfl, l, _, 0, _, rfl, rfl, SqL.of hl, atI_nat (j := 0) g1, p0, _, rfl, .inr g2, N, by rw [nv_len, g3], .of_le (by omega) (by omega) (by omega) (by omega), fun p1 hp1 => ⟨p1, nv (List.range N), rfl, .inl ⟨SqL.of (by rw [upd_same, rgV_nat]), fun p2 hp2 => ?_⟩⟩⟩
  have x2 := (ex_new (o := .lst (rgV 0 (N : Nat))) hp1).trans (ex_new (o := .tup (nv (List.range N))) hp2)
  have hp2' : SqT K (upd (upd H p1 (.lst (rgV 0 (N : Nat)))) p2 (.tup (nv (List.range N)))) p2 (nv (List.range N)) := SqT.of upd_same
  generalize (upd (upd H p1 (.lst (rgV 0 (N : Nat)))) p2 (.tup (nv (List.range N)))) = H2 at x2 hp2' ⊢
  have len : ∀ i, (chOf (tr cs N) (row.take i)).length = N ∧ Chg (chOf (tr cs N) (row.take i)) := by
    intro i
    rcases hN1 with h0 | h1
    · subst h0
      have key : ∀ xs : List Nat, chOf (tr cs 0) xs = [] := by
        intro xs
        have : ∀ (ys : List Nat), ys.foldl (fun f k => cmp f (col (tr cs 0) k)) [] = [] := fun ys => by
          induction ys with
          | nil => rfl
          | cons y ys ih => exact ih
        exact this xs
      rw [key]
      exact ⟨rfl, fun x hx => absurd hx List.not_mem_nil⟩
    · have := chOf_ok (tr_mw hC h1 hN c1 c2) (row.take i) fun k hk => hrow k (List.mem_of_mem_take hk)
      rw [tr_len] at this
      exact this
  refine ⟨_, rfl, a, rfl, ⟨_, ex_t x2 ha⟩, for_tup (xs := nv row) (fun i σ H' => ∃ p u, σ = [some (.ref l), some (.ref a), some (.ref p), u] ∧ Ex H H' ∧ SqT K H' p (nv (chOf (tr cs N) (row.take i)))) ⟨p2, none, rfl, x2, ?_⟩ (fun i σ H' _ z => by obtain ⟨_, _, _, e, _⟩ := z; exact ex_t e ha) ?_ ?_⟩
  · show SqT K H2 p2 (nv (List.range (tr cs N).length))
    rw [tr_len]
    exact hp2'
  · rintro i x σ H3 hi ⟨p, u, rfl, e3, h3⟩
    obtain ⟨k, hk, rfl⟩ := nv_at hi
    have hkc := hrow k (List.mem_of_getElem? hk)
    obtain ⟨pk, h4, h5⟩ := ht.2 k cs[k] (List.getElem?_eq_getElem hkc)
    have hck := hC _ (List.getElem_mem hkc)
    refine ⟨_, rfl, _, rfl, _, rfl, l, _, k, _, rfl, rfl, SqL.of (e3 _ _ hl), atI_nat h4, _, _, rfl, p, pk, _, _, rfl, rfl, h3, ex_t e3 h5, by rw [(len i).1]; omega, fun s hs => ?_, fun p4 H4 e4 h6 => ⟨p4, _, rfl, e3.trans e4, ?_⟩⟩
    · have := (len i).2 s hs
      rw [(len i).1] at this
      rw [hck.2]
      exact this
    · rw [chOf_take hk, tr_col hC (List.getElem?_eq_getElem hkc)]
      exact h6
  · rintro σ H3 ⟨p, u, rfl, e3, h3⟩
    rw [nv_len, List.take_length] at h3
    exact ⟨_, rfl, q p H3 e3 h3⟩
end
end Bf
namespace Bf
open PySem PySem.Spec PyProof.Rows L2 RZ PpSet
open C8 (Cal Met Mak Def cal0 met0 mak0 pe_c pe_mk pe_mt pe_mt0 fnScope fnBody InsC call_isC tCut pss_cut)
open Evl (Ex ex_l ex_t ex_rd fresh_back sz_of sz_lt)
section
variable {P : Program} {w : World} {K : PySem.W.Frag} {mg : Str → Option Value} {base : Heap}
theorem Tups.app {H : Hp} {as bs : List V} {xs ys : List (List Nat)} (h : Tups K H as xs) (h' : Tups K H bs ys) : Tups K H (as ++ bs) (xs ++ ys) := h.append h'
theorem back_none {d c l : Addr} {H H' : Hp} (hD : Deal d c H') (e : ExD d c H H') (hl : H' l = none) : H l = none := by
  cases hh : H l with
  | none => rfl
  | some o =>
    have f := hD.fresh hl
    have := e l o f.1 f.2 hh
    rw [this] at hl
    cases hl
/-- the list at l of the commands so far -/
def Cs (K : PySem.W.Frag) (H : Hp) (l : Addr) (cs : List (List Nat)) (N : Nat) : Prop := ∃ vs, H l = some (.lst vs) ∧ Tups K H vs cs ∧ Cm N cs ∧ cs.length ≤ 10 ∧ (cs = [] ∨ (1 ≤ N ∧ N ≤ 16))
theorem Cs.ex {H H' : Hp} {l : Addr} {cs : List (List Nat)} {N : Nat} (h : Cs K H l cs N) (e : Ex H H') : Cs K H' l cs N := let ⟨vs, h1, h2, h3⟩ := h; ⟨vs, e _ _ h1, h2.ex e, h3⟩
theorem Cs.exD {d c : Addr} {H H' : Hp} {l : Addr} {cs : List (List Nat)} {N : Nat} (h : Cs K H l cs N) (hD : Deal d c H) (n : l ≠ d ∧ l ≠ c) (e : ExD d c H H') : Cs K H' l cs N := let ⟨vs, h1, h2, h3⟩ := h; ⟨vs, e _ _ n.1 n.2 h1, h2.exD hD e, h3⟩
theorem Cs.head {H : Hp} {l : Addr} {cs : List (List Nat)} {N : Nat} (h : Cs K H l cs N) (hne : cs ≠ []) : ∃ (vs : List V) (p : Addr) (f : List Nat), H l = some (.lst vs) ∧ vs[0]? = some (.ref p) ∧ SqT K H p (nv f) ∧ f.length = N ∧ 1 ≤ N ∧ N ≤ 16 := by
  obtain ⟨vs, h1, h2, h3, _, h5⟩ := h
  have hl := List.length_pos_iff.mpr hne
  obtain ⟨p, g1, g2⟩ := h2.2 0 cs[0] (List.getElem?_eq_getElem hl)
  have := h5.resolve_left hne
  exact ⟨vs, p, _, h1, g1, g2, (h3 _ (List.getElem_mem hl)).2, this⟩
abbrev s_law_machine : Stmt := topS 71
abbrev N_law_machine : List Str := ["_law_deal", "_law_most", "_law_some", "_law_turn", "_law_firsts", "_law_end", "_law_size", "_law_s", "_law_many", "_law_names", "_law_found", "_law_change", "_law_turned", "_law_state", "_law_to", "_law_command"]
theorem sc_law_machine : FnScope N_law_machine ["_law_deal", "_law_most"] (fnScope s_law_machine) := ⟨rfl, rfl, rfl, by decide +kernel, rfl, by decide +kernel, by decide +kernel⟩
def spLawMach (K : PySem.W.Frag) : Sp := sp2 fun x y H Q => ∃ d c, x = .ref d ∧ y = .int 16 ∧ Deal d c H ∧ ∀ p vs cs N H', ExD d c H H' → Deal d c H' → H p = none → H' p = some (.lst vs) → Tups K H' vs cs → Cm N cs → 1 ≤ cs.length → cs.length ≤ 20 → 1 ≤ N → N ≤ 16 → Q (.ref p) H'
theorem c_law_machine (d : DefB K mg "_law_machine" s_law_machine ["_law_deal", "_law_most"]) (Z : Zb mg) (c_law_any : Cal P w K mg base 1 "_law_any" spAny []) (c_law_columns : Cal P w K mg base 3 "_law_columns" (spColumns K) []) (c_law_falling : Cal P w K mg base 3 "_law_falling" (spLawFall K) [])
    (c_law_mixed : Cal P w K mg base 2 "_law_mixed" (spMixed K) []) (c_law_two : Cal P w K mg base 2 "_law_two" (spTwo K) []) : Cal P w K mg base 4 "_law_machine" (spLawMach K) [] := by
  refine cal_of d sc_law_machine len2 fun vs0 H Q E h f0 cdv A outer s0 E' hr => ?_
  obtain ⟨x, y, rfl, d, c, rfl, rfl, hD, q⟩ := h
  refine ⟨_, (pss_cons (ps_set (i := 2) sc_law_machine.nd rfl (Or.inl rfl) (pe_lst pa_nil))
      (pss_cut (ps_if (pt_cmpR on_gt (pe_c c_law_any hr (by decide) (by rfl) (pa_cons (pv 0) (pa_cons pe_int pa_nil))) pe_int (nomark _))
        (pss_one (ps_for PassesOwn.never rfl (pi_range1 (by rfl) Z.range (pa_cons pe_int pa_nil)) (pg_name (i := 3) sc_law_machine.nd rfl (Or.inl rfl))
          (pss_cons (ps_asg (pe_c c_law_falling hr (by decide) (by rfl) (pa_cons (pv 0) (pa_cons pe_int pa_nil))) (pg_tupK K rfl 2 rfl (pgs_cons (pg_name (i := 4) sc_law_machine.nd rfl (Or.inl rfl)) (pgs_cons (pg_name (i := 5) sc_law_machine.nd rfl (Or.inl rfl)) pgs_nil))))
          (pss_cons (ps_set (i := 6) sc_law_machine.nd rfl (Or.inl rfl) (pv 5))
          (pss_cons (ps_for PassesOwn.never rfl (pi_tupK K rfl (pv 4)) (pg_name (i := 7) sc_law_machine.nd rfl (Or.inl rfl))
            (pss_one (ps_set (i := 6) sc_law_machine.nd rfl (Or.inl rfl) (pe_op on_mul (pe_op on_mul (pv 6) pe_int) (pv 7)))))
          (pss_one (ps_if (PW.pt (pw_and (pt_cmpR on_le (pv 6) (pv 1) (nomark _)) (pw_and1 (PW.pt (pw_or (pt_cmpR (op_eqK K rfl hr.units) (pv 2) (pe_lst pa_nil) (nomark _)) (pw_or1 (pt_cmpR on_gt (pv 6) (pe_callB (call_lenK K) (by rfl) Z.len (by decide +kernel) (pa_cons (pe_ix (ix_listK K) (pv 2) pe_int (fun _ _ => rfl)) pa_nil)) (nomark _))))))))
            (pss_one (ps_set (i := 2) sc_law_machine.nd rfl (Or.inl rfl) (pe_c c_law_two hr (by decide) (by rfl) (pa_cons (pv 4) (pa_cons (pv 5) pa_nil)))))
            pss_nil)))))))
        pss_nil)
      (pss_cut (ps_if (PW.pt (pw_or (pt_cmpR (op_eqK K rfl hr.units) (pv 2) (pe_lst pa_nil) (nomark _)) (pw_or1 (pt_cmpR on_eq (pe_c c_law_any hr (by decide) (by rfl) (pa_cons (pv 0) (pa_cons pe_int pa_nil))) pe_int (nomark _)))))
        (pss_cons (ps_set (i := 8) sc_law_machine.nd rfl (Or.inr rfl) (pe_ifExp (pt_cmpR (op_eqK K rfl hr.units) (pv 2) (pe_lst pa_nil) (nomark _)) (pe_op on_add pe_int (pe_c c_law_any hr (by decide) (by rfl) (pa_cons (pv 0) (pa_cons (pv 1) pa_nil)))) (pe_callB (call_lenK K) (by rfl) Z.len (by decide +kernel) (pa_cons (pe_ix (ix_listK K) (pv 2) pe_int (fun _ _ => rfl)) pa_nil))))
        (pss_one (ps_set (i := 2) sc_law_machine.nd rfl (Or.inl rfl) (pe_op op_cat (pv 2) (pe_lc (own := [("_law_command", 15)]) rfl sc_law_machine.nd (pi_range1 (by rfl) Z.range (pa_cons (pe_op on_add pe_int (pe_c c_law_any hr (by decide) (by rfl) (pa_cons (pv 0) (pa_cons pe_int pa_nil)))) pa_nil)) (blkOk_by (own := [("_law_command", 15)]) (N := N_law_machine) (sc := fnScope s_law_machine) (by decide +kernel)) (fun _ _ _ _ _ => (pg_name (i := 15) sc_law_machine.nd rfl (Or.inl rfl))) (fun _ _ _ _ _ => pts_nil) (fun _ _ _ _ _ => (pe_c c_law_columns hr (by decide) (by rfl) (pa_cons (pv 8) (pa_cons (pv 0) (pa_cons (pe_c c_law_any hr (by decide) (by rfl) (pa_cons (pv 0) (pa_cons pe_int pa_nil))) pa_nil))))))))))
        pss_nil)
      (pss_cons (ps_par (i := 9) (j := 10) (by rfl) sc_law_machine.nd rfl rfl (by decide) rfl rfl (pa_cons (pe_c c_law_mixed hr (by decide) (by rfl) (pa_cons (pv 0) (pa_cons (pe_listRg rfl (by rfl) Z.list_ (prg_1 rfl Z.range (pe_callB (call_lenK K) (by rfl) Z.len (by decide +kernel) (pa_cons (pe_ix (ix_listK K) (pv 2) pe_int (fun _ _ => rfl)) pa_nil)))) pa_nil))) (pa_cons (pe_lst pa_nil) pa_nil)) (by rfl))
      (pss_cons (ps_for PassesOwn.never rfl (pi_listK K rfl (pe_c c_law_mixed hr (by decide) (by rfl) (pa_cons (pv 0) (pa_cons (pv 2) pa_nil)))) (pg_name (i := 11) sc_law_machine.nd rfl (Or.inl rfl))
        (pss_cons (ps_set (i := 12) sc_law_machine.nd rfl (Or.inl rfl) (pe_op op_rep (pe_lst (pa_cons pe_int pa_nil)) (pe_callB (call_lenK K) (by rfl) Z.len (by decide +kernel) (pa_cons (pv 9) pa_nil))))
        (pss_cons (ps_for PassesOwn.never rfl (pi_enumT (by rfl) Z.enumerate (pa_cons (pv 11) pa_nil)) (pg_tupK K rfl 2 rfl (pgs_cons (pg_name (i := 13) sc_law_machine.nd rfl (Or.inl rfl)) (pgs_cons (pg_name (i := 14) sc_law_machine.nd rfl (Or.inl rfl)) pgs_nil)))
          (pss_one (ps_asg (pe_ix (ix_listK K) (pv 9) (pv 14) (fun _ _ => rfl)) (pg_sub (pv 12) (pe_ix (ix_listK K) (pv 9) (pv 13) (fun _ _ => rfl)) set_list))))
        (pss_one (ps_expr (pe_bm PySem.F.plainAttrs_list PySem.F.slot_list_append PySem.F.type_list_append mt_append (pv 10) (pa_cons (pe_callTy (call_tupK K) (by rfl) Z.tuple_ (by decide +kernel) (pa_cons (pv 12) pa_nil)) pa_nil)))))))
      (pss_one (ps_ret (pv 10)))))))), ?_⟩
  refine ⟨Nat.zero_le _, fun l0 hl0 => ?_⟩
  have x1 := ex_new (o := .lst []) hl0
  have hl0' : (upd H l0 (.lst [])) l0 = some (.lst []) := upd_same
  have e1 : ExD d c H (upd H l0 (.lst [])) := exD_of x1
  have hD1 := hD.ex x1
  generalize (upd H l0 (.lst [])) = H1 at hl0' e1 hD1 ⊢
  -- the word between the parts
  refine ⟨fun σ H' => ∃ l cs N u3 u4 u5 u6 u7, σ = [some (.ref d), some (.int 16), some (.ref l), u3, u4, u5, u6, u7, none, none, none, none, none, none, none, none] ∧ ExD d c H H' ∧ Deal d c H' ∧ H l = none ∧ Cs K H' l cs N, ?_, ?_⟩
  · refine ⟨_, rfl, _, _, rfl, d, c, 3, rfl, rfl, by decide, by decide, hD1, fun v H2 hv e2 hD2 => ⟨v, 0, rfl, rfl, _, rfl, ?_⟩⟩
    have f0 := hD.fresh hl0
    have C0 : Cs K H2 l0 [] 0 := ⟨[], e2 _ _ f0.1 f0.2 hl0', Tups.nil, fun f h => absurd h List.not_mem_nil, Nat.zero_le _, .inl rfl⟩
    have e02 := e1.trans e2
    by_cases hv0 : 0 < v
    · rw [decide_eq_true hv0]
      refine ⟨6, rfl, by decide, by decide, for_rng (n := 6) (fun i σ H' => ∃ l cs N u3 u4 u5 u6 u7, σ = [some (.ref d), some (.int 16), some (.ref l), u3, u4, u5, u6, u7, none, none, none, none, none, none, none, none] ∧ ExD d c H H' ∧ Deal d c H' ∧ H l = none ∧ Cs K H' l cs N)
        ⟨l0, [], 0, none, none, none, none, none, rfl, e02, hD2, hl0, C0⟩ ?_ fun σ H' h => h⟩
      rintro i σ H3 hi ⟨l, cs, N, u3, u4, u5, u6, u7, rfl, e3, hD3, hl, C3⟩
      have fl := hD.fresh hl
      refine ⟨_, rfl, _, _, rfl, d, c, 7, rfl, rfl, by decide, hD3, fun p q0 fs e H4 e4 hD4 hp hq hfs hfl he1 he4 => ⟨p, _, rfl, hp, rfl, _, _, rfl, _, _, rfl, rfl, _, rfl, ?_⟩⟩
      have e04 := e3.trans e4
      have C4 := C3.exD hD3 fl e4
      refine ⟨_, rfl, q0, rfl, ⟨_, hq⟩, for_tup (xs := nv fs) (fun j σ H' => ∃ u7, σ = [some (.ref d), some (.int 16), some (.ref l), some (.int (i : Nat)), some (.ref q0), some (.int (e : Nat)), some (.int (((fs.take j).foldl (fun z s => z * 2 * s) e : Nat) : Int)), u7, none, none, none, none, none, none, none, none] ∧ H' = H4) ⟨u7, rfl, rfl⟩ (fun j σ H' _ z => by obtain ⟨_, _, rfl⟩ := z; exact hq) ?_ ?_⟩
      · rintro j x σ H5 hj ⟨u7, rfl, rfl⟩
        obtain ⟨s, hs, rfl⟩ := nv_at hj
        have hsz := (hfs s (List.mem_of_getElem? hs)).2
        refine ⟨_, rfl, _, 2, rfl, rfl, .inr (by decide), _, rfl, _, s, rfl, rfl, .inr (by omega), some (V.int (s : Nat)), ?_, rfl⟩
        rw [tk hs, List.foldl_append]
        rfl
      · rintro σ H5 ⟨u7, rfl, rfl⟩
        rw [nv_len, List.take_length, Pr_fold]
        have stay : ∀ H9, Ex H5 H9 → ExD d c H H9 ∧ Deal d c H9 ∧ H l = none ∧ Cs K H9 l cs N := fun H9 x9 => ⟨e04.trans (exD_of x9), hD4.ex x9, hl, C4.ex x9⟩
        have go : ∀ H9, Ex H5 H9 → e * Pr fs ≤ 16 → tAsg (tCall (spTwo K) [] C8.E0 (tCons (tVar 4) (tCons (tVar 5) tNil))) (gName 2)
            { nx := fun σ H' => ∃ l cs N u3 u4 u5 u6 u7, σ = [some (.ref d), some (.int 16), some (.ref l), u3, u4, u5, u6, u7, none, none, none, none, none, none, none, none] ∧ ExD d c H H' ∧ Deal d c H' ∧ H l = none ∧ Cs K H' l cs N, rt := Q }
            [some (.ref d), some (.int 16), some (.ref l), some (.int (i : Nat)), some (.ref q0), some (.int (e : Nat)), some (.int ((e * Pr fs : Nat) : Int)), u7, none, none, none, none, none, none, none, none] H9 := by
          intro H9 x9 h16
          refine ⟨_, rfl, _, rfl, _, _, rfl, q0, fs, e, rfl, rfl, ex_t x9 hq, fun s hs => (hfs s hs).1, by omega, he1, h16, fun p2 vs2 f g H10 x10 hn2 hp2 ht2 hf hg lf lg => ?_⟩
          have x910 := x9.trans x10
          have hPp := Pr_pos fs fun s hs => (hfs s hs).1
          refine ⟨p2, [f, g], e * Pr fs, _, _, _, _, _, rfl, e04.trans (exD_of x910), hD4.ex x910, back_none (hD4.ex x9) (e04.trans (exD_of x9)) hn2, vs2, hp2, ht2, fun f' hf' => ?_, by show 2 ≤ 10; decide, .inr ⟨Nat.mul_pos he1 hPp, h16⟩⟩
          · rcases List.mem_cons.mp hf' with h | h
            · rw [h]; exact ⟨hf, lf⟩
            · rw [List.mem_singleton.mp h]; exact ⟨hg, lg⟩
        refine ⟨_, rfl, _, rfl, _, 16, rfl, rfl, _, rfl, ?_⟩
        by_cases h16 : e * Pr fs ≤ 16
        · rw [decide_eq_true h16]
          refine ⟨_, rfl, by show 0 ≤ sizeLine; decide, fun n1 hn1 => ?_⟩
          have x6 := ex_new (o := .lst []) hn1
          obtain ⟨vs, c1, c2, _⟩ := C4.ex x6
          refine rdEq0 c1 c2 upd_same ⟨_, rfl, ?_⟩
          have C6 := C4.ex x6
          generalize (upd H5 n1 (.lst [])) = H6 at x6 C6 ⊢
          by_cases hc : cs = []
          · rw [decide_eq_true hc]
            exact go H6 x6 h16
          · rw [decide_eq_false hc]
            obtain ⟨vs, p0, f, g1, g2, g3, g4, _⟩ := C6.head hc
            refine ⟨_, rfl, _, rfl, l, _, 0, _, rfl, rfl, SqL.of g1, atI_nat (j := 0) g2, p0, _, rfl, .inr g3, _, _, rfl, rfl, _, rfl, ?_⟩
            rw [nv_len]
            by_cases hlt : f.length < e * Pr fs
            · rw [decide_eq_true hlt]
              exact go H6 x6 h16
            · rw [decide_eq_false hlt]
              exact ⟨l, cs, N, _, _, _, _, _, rfl, stay H6 x6⟩
        · rw [decide_eq_false h16]
          exact ⟨l, cs, N, _, _, _, _, _, rfl, stay H5 (Ex.refl _)⟩
    · rw [decide_eq_false hv0]
      exact ⟨l0, [], 0, _, _, _, _, _, rfl, e02, hD2, hl0, C0⟩
  · rintro σ H3 ⟨l, cs, N, u3, u4, u5, u6, u7, rfl, e3, hD3, hl, C3⟩
    have fl := hD.fresh hl
    refine ⟨fun σ H' => ∃ l vs cs N u3 u4 u5 u6 u7 u8, σ = [some (.ref d), some (.int 16), some (.ref l), u3, u4, u5, u6, u7, u8, none, none, none, none, none, none, none] ∧ ExD d c H H' ∧ Deal d c H' ∧ H l = none ∧ H' l = some (.lst vs) ∧ Tups K H' vs cs ∧ Cm N cs ∧ 1 ≤ cs.length ∧ cs.length ≤ 20 ∧ 1 ≤ N ∧ N ≤ 16, ?_, ?_⟩
    · have go : ∀ H9, ExD d c H3 H9 → Deal d c H9 → tSeq (tAsg (tIf (tTest (tOp (rEqD K) (tVar 2) (tLst tNil))) (tOp (rN fun n m => .int ((n + m : Nat) : Int)) (tC (.int 1)) (tCall spAny [] C8.E0 (tCons (tVar 0) (tCons (tVar 1) tNil)))) (tCB (rLen K) (tCons (tOp (rIxL K) (tVar 2) (tC (.int 0))) tNil))) (gName 8))
          (tAsg (tOp rCat (tVar 2) (tLc (iRng1 (tCons (tOp (rN fun n m => .int ((n + m : Nat) : Int)) (tC (.int 1)) (tCall spAny [] C8.E0 (tCons (tVar 0) (tCons (tC (.int 2)) tNil)))) tNil)) (gName 15) tYes (tCall (spColumns K) [] C8.E0 (tCons (tVar 8) (tCons (tVar 0) (tCons (tCall spAny [] C8.E0 (tCons (tVar 0) (tCons (tC (.int 8)) tNil))) tNil)))) [15])) (gName 2))
          { nx := fun σ H' => ∃ l vs cs N u3 u4 u5 u6 u7 u8, σ = [some (.ref d), some (.int 16), some (.ref l), u3, u4, u5, u6, u7, u8, none, none, none, none, none, none, none] ∧ ExD d c H H' ∧ Deal d c H' ∧ H l = none ∧ H' l = some (.lst vs) ∧ Tups K H' vs cs ∧ Cm N cs ∧ 1 ≤ cs.length ∧ cs.length ≤ 20 ∧ 1 ≤ N ∧ N ≤ 16, rt := Q }
          [some (.ref d), some (.int 16), some (.ref l), u3, u4, u5, u6, u7, none, none, none, none, none, none, none, none] H9 := by
        intro H9 e9 hD9
        have C9 := C3.exD hD3 fl e9
        have e09 := e3.trans e9
        -- the commands are drawn
        have draw : ∀ (M : Nat) (H10 : Hp), 1 ≤ M → M ≤ 16 → ExD d c H H10 → Deal d c H10 → Cs K H10 l cs M →
            tAsg (tOp rCat (tVar 2) (tLc (iRng1 (tCons (tOp (rN fun n m => .int ((n + m : Nat) : Int)) (tC (.int 1)) (tCall spAny [] C8.E0 (tCons (tVar 0) (tCons (tC (.int 2)) tNil)))) tNil)) (gName 15) tYes (tCall (spColumns K) [] C8.E0 (tCons (tVar 8) (tCons (tVar 0) (tCons (tCall spAny [] C8.E0 (tCons (tVar 0) (tCons (tC (.int 8)) tNil))) tNil)))) [15])) (gName 2)
            { nx := fun σ H' => ∃ l vs cs N u3 u4 u5 u6 u7 u8, σ = [some (.ref d), some (.int 16), some (.ref l), u3, u4, u5, u6, u7, u8, none, none, none, none, none, none, none] ∧ ExD d c H H' ∧ Deal d c H' ∧ H l = none ∧ H' l = some (.lst vs) ∧ Tups K H' vs cs ∧ Cm N cs ∧ 1 ≤ cs.length ∧ cs.length ≤ 20 ∧ 1 ≤ N ∧ N ≤ 16, rt := Q }
            [some (.ref d), some (.int 16), some (.ref l), u3, u4, u5, u6, u7, some (.int (M : Nat)), none, none, none, none, none, none, none] H10 := by
          intro M H10 hM1 hM16 e10 hD10 C10
          refine ⟨_, rfl, _, rfl, _, _, rfl, d, c, 2, rfl, rfl, by decide, by decide, hD10, fun v H11 hv e11 hD11 => ⟨1, v, rfl, rfl, 1 + v, rfl, by omega, by omega, fun D hDn => ?_⟩⟩
          have fD := hD11.fresh hDn
          have e011 := e10.trans e11
          have C11 := C10.exD hD10 fl e11
          have hDH := back_none hD11 e011 hDn
          refine lc_rng (n := 1 + v) (fun i H' => ∃ vs2 cs2, ExD d c H11 H' ∧ Deal d c H' ∧ H' D = some (.lst vs2) ∧ Tups K H' vs2 cs2 ∧ cs2.length = i ∧ Cm M cs2) ⟨[], [], exD_of (ex_new hDn), hD11.ex (ex_new hDn), upd_same, Tups.nil, rfl, fun f h => absurd h List.not_mem_nil⟩ ?_ ?_
          · rintro i H12 hi ⟨vs2, cs2, e12, hD12, hd12, ht12, hl12, hC12⟩
            refine ⟨rfl, _, rfl, _, rfl, _, rfl, _, _, rfl, d, c, 8, rfl, rfl, by decide, by decide, hD12, fun k H13 hk e13 hD13 => ?_⟩
            refine ⟨_, _, _, rfl, d, c, M, k, rfl, rfl, rfl, hM1, by omega, hD13, fun p f H14 e14 hD14 hp hf hfl => ⟨vs2, e14 _ _ fD.1 fD.2 (e13 _ _ fD.1 fD.2 hd12), sz_lt (by rw [ht12.1]; omega), ?_⟩⟩
            have hd14 := e14 _ _ fD.1 fD.2 (e13 _ _ fD.1 fD.2 hd12)
            refine ⟨vs2 ++ [.ref p], cs2 ++ [f], ((e12.trans e13).trans e14).mut hDn, hD14.upd fD, upd_same, (((ht12.exD hD12 (e13.trans e14)).snoc hp).upd hd14), by rw [List.length_append, List.length_singleton, hl12], fun g hg => ?_⟩
            rcases List.mem_append.mp hg with h | h
            · exact hC12 g h
            · rw [List.mem_singleton.mp h]; exact ⟨hf, hfl⟩
          · rintro H12 ⟨vs2, cs2, e12, hD12, hd12, ht12, hl12, hC12⟩
            obtain ⟨vs, k1, k2, k3, k4, k5⟩ := C11.exD hD11 fl e12
            refine ⟨l, D, vs, vs2, rfl, rfl, k1, hd12, ?_, fun p hp => ?_⟩
            · rw [k2.1, ht12.1, hl12]
              exact Nat.le_of_lt (sz_lt (by omega))
            · have x13 := ex_new (o := .lst (vs ++ vs2)) hp
              have e012 := e011.trans e12
              refine ⟨p, vs ++ vs2, cs ++ cs2, M, _, _, _, _, _, _, rfl, e012.trans (exD_of x13), hD12.ex x13, back_none hD12 e012 hp, upd_same, (k2.ex x13).app (ht12.ex x13), fun g hg => (List.mem_append.mp hg).elim (k3 g) (hC12 g), ?_, ?_, hM1, hM16⟩
              · rw [List.length_append]; omega
              · rw [List.length_append]; omega
        refine ⟨_, rfl, by show 0 ≤ sizeLine; decide, fun n1 hn1 => ?_⟩
        have x10 := ex_new (o := .lst []) hn1
        have C10 := C9.ex x10
        obtain ⟨vs, c1, c2, c3, c4, c5⟩ := id C10
        refine rdEq0 c1 c2 upd_same ⟨_, rfl, ?_⟩
        have e010 := e09.trans (exD_of x10)
        have hD10 := hD9.ex x10
        generalize (upd H9 n1 (.lst [])) = H10 at x10 C10 e010 hD10 c1 c2 ⊢
        by_cases hc : cs = []
        · rw [decide_eq_true hc]
          refine ⟨_, rfl, _, rfl, _, _, rfl, d, c, 16, rfl, rfl, by decide, by decide, hD10, fun v H11 hv e11 hD11 => ⟨1, v, rfl, rfl, ?_⟩⟩
          have fin := draw (1 + v) H11 (by omega) (by omega) (e010.trans e11) hD11 ⟨vs, e11 _ _ fl.1 fl.2 c1, c2.exD hD10 e11, by rw [hc]; exact fun f h => absurd h List.not_mem_nil, c4, .inl hc⟩
          exact fin
        · rw [decide_eq_false hc]
          obtain ⟨vs', p0, f, g1, g2, g3, g4, g5, g6⟩ := C10.head hc
          refine ⟨_, rfl, l, _, 0, _, rfl, rfl, SqL.of g1, atI_nat (j := 0) g2, p0, _, rfl, .inr g3, ?_⟩
          rw [nv_len, g4]
          exact draw N H10 g5 g6 e010 hD10 C10
      refine ⟨_, rfl, by show 0 ≤ sizeLine; decide, fun n1 hn1 => ?_⟩
      have x4 := ex_new (o := .lst []) hn1
      have C4 := C3.ex x4
      obtain ⟨vs, c1, c2, c3, c4, c5⟩ := id C4
      refine rdEq0 c1 c2 upd_same ⟨_, rfl, ?_⟩
      have hD4 := hD3.ex x4
      generalize (upd H3 n1 (.lst [])) = H4 at x4 C4 hD4 c1 c2 ⊢
      by_cases hc : cs = []
      · rw [decide_eq_true hc]
        exact go H4 (exD_of x4) hD4
      · rw [decide_eq_false hc]
        refine ⟨_, rfl, _, _, rfl, d, c, 4, rfl, rfl, by decide, by decide, hD4, fun v H5 hv e5 hD5 => ⟨v, 0, rfl, rfl, _, rfl, ?_⟩⟩
        have e35 := (exD_of x4).trans e5
        by_cases hv0 : v = 0
        · rw [decide_eq_true hv0]
          exact go H5 e35 hD5
        · rw [decide_eq_false hv0]
          obtain ⟨h1, h2⟩ := c5.resolve_left hc
          have := List.length_pos_iff.mpr hc
          exact ⟨l, vs, cs, N, _, _, _, _, _, _, rfl, e3.trans e35, hD5, hl, e5 _ _ fl.1 fl.2 c1, c2.exD hD4 e5, c3, this, by omega, h1, h2⟩
    · rintro σ H4 ⟨l, vs, cs, N, u3, u4, u5, u6, u7, u8, rfl, e4, hD4, hl, hv4, ht4, hC, c1, c20, N1, N16⟩
      have fl := hD.fresh hl
      obtain ⟨p0, g1, g2⟩ := ht4.2 0 cs[0] (List.getElem?_eq_getElem c1)
      have g3 := (hC _ (List.getElem_mem (h := c1))).2
      refine ⟨_, rfl, _, rfl, l, _, 0, _, rfl, rfl, SqL.of hv4, atI_nat (j := 0) g1, p0, _, rfl, .inr g2, N, by rw [nv_len, g3], .of_le (by omega) (by omega) (by omega) (by omega), fun r hrn => ?_⟩
      have x5 := ex_new (o := .lst (rgV 0 (N : Nat))) hrn
      have hr5 : (upd H4 r (.lst (rgV 0 (N : Nat)))) r = some (.lst (nv (List.range N))) := by rw [upd_same, rgV_nat]
      generalize (upd H4 r (.lst (rgV 0 (N : Nat)))) = H5 at x5 hr5 ⊢
      refine ⟨_, _, rfl, d, c, r, _, rfl, rfl, SqL.of hr5, by rw [nv_len, List.length_range]; omega, hD4.ex x5, neOk_nv _, fun pn ys H6 e6 hD6 hn6 hp6 hperm => ⟨Nat.zero_le _, fun lf hlf => ⟨_, _, rfl, ?_⟩⟩⟩
      obtain ⟨ms, rfl, hml, hmm⟩ := perm_nv hperm
      rw [List.length_range] at hml
      have hmN : ∀ x ∈ ms, x < N := fun x hx => List.mem_range.mp (hmm x hx)
      have e56 : ExD d c H4 H6 := (exD_of x5).trans e6
      have e06 := e4.trans e56
      have hlfH := back_none hD6 e06 hlf
      have flf := hD.fresh hlfH
      have x7 := ex_new (o := .lst []) hlf
      have hlf7 : (upd H6 lf (.lst [])) lf = some (.lst []) := upd_same
      have hp7 := x7 _ _ hp6
      have hD7 := hD6.ex x7
      have e47 := e56.trans (exD_of x7)
      have npf : pn ≠ lf := ne_of_none hp6 hlf
      generalize (upd H6 lf (.lst [])) = H7 at x7 hlf7 hp7 hD7 e47 ⊢
      have hv7 := e47 _ _ fl.1 fl.2 hv4
      have ht7 := ht4.exD hD4 e47
      have hnn : H5 pn = none := hn6
      refine ⟨_, rfl, _, rfl, _, _, rfl, d, c, l, vs, rfl, rfl, SqL.of hv7, by rw [ht4.1]; omega, hD7, neOk_tups hD7 ht7, fun pm ys H8 e8 hD8 hn8 hp8 hperm2 => ⟨pm, rfl, ⟨_, SqL.of hp8⟩, ?_⟩⟩
      have e08 := (e4.trans e47).trans e8
      have fpn := (hD4.ex x5).fresh hnn
      have hp88 := e8 _ _ fpn.1 fpn.2 hp7
      have hlf8 := e8 _ _ flf.1 flf.2 hlf7
      have npm : pm ≠ lf := fun z => by rw [z, hlf7] at hn8; cases hn8
      have ht8 := ht7.exD hD7 e8
      obtain ⟨cy, hty, hCy⟩ := all_tups (K := K) (H := H8) (G := fun f => Chg f ∧ f.length = N) ys fun y hy => by
        obtain ⟨p, f, h1, h2, h3⟩ := ht8.each (hperm2.mem_iff.mp hy)
        exact ⟨p, f, h1, h2, hC f h3⟩
      have hyl : cy.length = cs.length := by rw [← hty.1, hperm2.length_eq, ht4.1]
      refine for_list (xs := ys) (fun i σ H' => ∃ vs2 cs2 u11 u12 u13 u14, σ = [some (.ref d), some (.int 16), some (.ref l), u3, u4, u5, u6, u7, u8, some (.ref pn), some (.ref lf), u11, u12, u13, u14, none] ∧ ExB lf H8 H' ∧ H' lf = some (.lst vs2) ∧ Tups K H' vs2 cs2 ∧ Cm N cs2 ∧ cs2.length = i)
        ⟨[], [], none, none, none, none, rfl, exB_of (Ex.refl _), hlf8, Tups.nil, fun f h => absurd h List.not_mem_nil, rfl⟩ (fun i σ H' _ z => by obtain ⟨_, _, _, _, _, _, _, e, _⟩ := z; exact SqL.of (e _ _ npm hp8)) ?_ ?_
      · rintro i x σ H9 hi ⟨vs2, cs2, u11, u12, u13, u14, rfl, e9, h9, ht9, hC9, hl9⟩
        have hil : i < cy.length := by rw [← hty.1]; exact (List.getElem?_eq_some_iff.mp hi).1
        obtain ⟨pc, k1, k2⟩ := hty.2 i cy[i] (List.getElem?_eq_getElem hil)
        rw [hi] at k1
        cases k1
        obtain ⟨hf, hfl⟩ := hCy _ (List.getElem_mem hil)
        generalize cy[i] = f at k2 hf hfl
        have hpc9 := exB_t hlf8 e9 k2
        have hpn9 := e9 _ _ npf hp88
        refine ⟨by show 1 ≤ sizeLine; decide, fun l1 hl1 => ?_⟩
        have y1 := ex_new (o := .lst [V.int 0]) hl1
        refine ⟨_, rfl, pn, _, rfl, .inl (SqL.of (y1 _ _ hpn9)), l1, ((nv ms).length : Nat), [V.int 0], rfl, rfl, upd_same, by omega, by rw [nv_len]; omega, ?_, fun lt hlt => ?_⟩
        · show 1 * ((nv ms).length : Int).toNat ≤ sizeLine
          rw [Int.toNat_natCast, nv_len]
          exact Nat.le_of_lt (sz_lt (by omega))
        have hlt10 : (upd (upd H9 l1 (.lst [V.int 0])) lt (.lst (List.replicate ((nv ms).length : Int).toNat [V.int 0]).flatten)) lt = some (.lst (nv (List.replicate N 0))) := by
          rw [upd_same, Int.toNat_natCast, flat_rep, nv_len, hml]
          exact congrArg (fun z => some (HO.lst z)) (rep_nv 0 N)
        have y2 := y1.trans (ex_new (o := .lst (List.replicate ((nv ms).length : Int).toNat [V.int 0]).flatten) hlt)
        have hltN : H9 lt = none := fresh_back y1 hlt
        generalize (upd (upd H9 l1 (.lst [V.int 0])) lt (.lst (List.replicate ((nv ms).length : Int).toNat [V.int 0]).flatten)) = H10 at y2 hlt10 ⊢
        have npt : pn ≠ lt := ne_of_none hpn9 hltN
        have nft : lf ≠ lt := ne_of_none h9 hltN
        refine ⟨_, rfl, pc, _, rfl, ex_t y2 hpc9, for_enT (xs := nv f) (fun j σ H' => ∃ L u13 u14, σ = [some (.ref d), some (.int 16), some (.ref l), u3, u4, u5, u6, u7, u8, some (.ref pn), some (.ref lf), some (.ref pc), some (.ref lt), u13, u14, none] ∧ Ex H9 H' ∧ H' lt = some (.lst (nv L)) ∧ Low L N N)
          ⟨List.replicate N 0, u13, u14, rfl, y2, hlt10, List.length_replicate, fun x hx => by rw [List.eq_of_mem_replicate hx]; omega⟩ (fun j σ H' _ z => by obtain ⟨_, _, _, _, e, _⟩ := z; exact ex_t e hpc9) ?_ ?_⟩
        · rintro j x t σ H11 hj ⟨L, u13, u14, rfl, e11, h11, w⟩ ht
          obtain ⟨to, hto, rfl⟩ := nv_at hj
          have hjN : j < N := by rw [← hfl]; exact (List.getElem?_eq_some_iff.mp hto).1
          have htoN : to < N := by have := hf to (List.mem_of_getElem? hto); rwa [hfl] at this
          have y12 := ex_new (o := .tup [.int (j : Nat), .int (to : Nat)]) ht
          have e12 := e11.trans y12
          have hpn12 := e12 _ _ hpn9
          have h12 := y12 _ _ h11
          have hto2 : ms[to]? = some ms[to] := List.getElem?_eq_getElem (by omega)
          have hj2 : ms[j]? = some ms[j] := List.getElem?_eq_getElem (by omega)
          have hv1 := hmN _ (List.getElem_mem (l := ms) (n := to) (by omega))
          have hv2 := hmN _ (List.getElem_mem (l := ms) (n := j) (by omega))
          refine ⟨t, _, rfl, SqT.of upd_same, rfl, _, _, rfl, _, _, rfl, rfl, ?_⟩
          refine ⟨_, rfl, _, rfl, pn, _, to, _, rfl, rfl, SqL.of hpn12, atI_nat (nv_get hto2), _, rfl, _, rfl, _, rfl, pn, _, j, _, rfl, rfl, SqL.of hpn12, atI_nat (nv_get hj2), lt, _, _, _, rfl, rfl, h12, ixN_n (by rw [nv_len, w.len]; exact hv2), ?_⟩
          refine ⟨L.set ms[j] ms[to], _, _, rfl, ex_mut e12 hltN, ?_, by rw [List.length_set]; exact w.len, fun x hx => ?_⟩
          · rw [upd_same]
            exact congrArg (fun z => some (HO.lst z)) List.map_set.symm
          · rcases List.mem_or_eq_of_mem_set hx with h | h
            · exact w.lt x h
            · rw [h]; exact hv1
        · rintro σ H11 ⟨L, u13, u14, rfl, e11, h11, w⟩
          have h911 := e11 _ _ h9
          refine ⟨_, rfl, .inl ⟨rfl, _, SqL.of h911⟩, _, rfl, lt, _, rfl, .inl ⟨SqL.of h11, fun tp htp => ?_⟩⟩
          have y12 := ex_new (o := .tup (nv L)) htp
          have h912 := y12 _ _ h911
          refine ⟨lf, vs2, .ref tp, rfl, rfl, h912, sz_lt (by rw [ht9.1]; omega), ?_⟩
          refine ⟨vs2 ++ [.ref tp], cs2 ++ [L], _, _, _, _, rfl, (e9.trans (exB_of (e11.trans y12))).trans exB_upd, upd_same, ((ht9.ex (e11.trans y12)).snoc (SqT.of upd_same)).upd h912, fun g hg => ?_, by rw [List.length_append, List.length_singleton, hl9]⟩
          rcases List.mem_append.mp hg with h | h
          · exact hC9 g h
          · rw [List.mem_singleton.mp h]
            exact ⟨fun x hx => by rw [w.len]; exact w.lt x hx, w.len⟩
      · rintro σ H9 ⟨vs2, cs2, u11, u12, u13, u14, rfl, e9, h9, ht9, hC9, hl9⟩
        rw [hperm2.length_eq, ht4.1] at hl9
        have eD : ExD d c H H9 := fun a o n1 n2 ha => e9 a o (ne_of_none ha hlfH) (e08 a o n1 n2 ha)
        have hD9 : Deal d c H9 := by
          obtain ⟨ns, b, j1, j2, j3⟩ := hD8
          exact ⟨ns, b, e9 _ _ (Ne.symm flf.1) j1, e9 _ _ (Ne.symm flf.2) j2, j3⟩
        exact ⟨_, rfl, q lf vs2 cs2 N H9 eD hD9 hlfH h9 ht9 hC9 (by omega) (by omega) N1 N16⟩
end
end Bf
namespace Bf
open PySem PySem.Spec PyProof.Rows L2 RZ PpSet
open C8 (Cal Met Mak Def cal0 met0 mak0 pe_c pe_mk pe_mt pe_mt0 fnScope fnBody InsC call_isC tCut pss_cut)
open Evl (Ex ex_l ex_t ex_rd fresh_back sz_of sz_lt)
section
variable {P : Program} {w : World} {K : PySem.W.Frag} {mg : Str → Option Value} {base : Heap}
/-! ### the closing by trying -/
def ComesP (L : List Nat) (n : Nat) : Prop := ∃ y ∈ L, ∃ x ∈ L, x ≤ y ∧ n ≤ x + y ∧ x + y - n ∈ L
theorem cl_come {S : Nat → Prop} {n : Nat} (hn : 0 < n) {L : List Nat} (hL : ∀ k, k ∈ L ↔ k < n ∧ Cl S k) : Cl S n ↔ S n ∨ ComesP L n := by
  constructor
  · intro h
    have key : ∀ m, Cl S m → m = n → S n ∨ ComesP L n := by
      intro m hm
      induction hm with
      | zero => intro h; omega
      | @mem k hk => intro e; rw [← e]; exact .inl hk
      | @cl x y z hx hy hz h1 h2 ihx ihy ihz =>
        intro e
        by_cases ex : x = n
        · exact ihx ex
        · by_cases ey : y = n
          · exact ihy ey
          · have mx : x ∈ L := (hL x).mpr ⟨by omega, hx⟩
            have my : y ∈ L := (hL y).mpr ⟨by omega, hy⟩
            have mz : z ∈ L := (hL z).mpr ⟨by omega, hz⟩
            rcases Nat.le_total x y with hxy | hxy
            · exact .inr ⟨y, my, x, mx, hxy, by omega, by rw [show x + y - n = z by omega]; exact mz⟩
            · exact .inr ⟨x, mx, y, my, hxy, by omega, by rw [show y + x - n = z by omega]; exact mz⟩
    exact key n h rfl
  · rintro (h | ⟨y, hy, x, hx, _, h2, h3⟩)
    · exact .mem h
    · obtain ⟨y1, y2⟩ := (hL y).mp hy
      obtain ⟨x1, x2⟩ := (hL x).mp hx
      obtain ⟨_, z2⟩ := (hL _).mp h3
      have := Cl.cl x2 y2 z2 (by omega) (by omega)
      rwa [show x + y - (x + y - n) = n by omega] at this
theorem inV_z (z : Int) : ∀ L : List Nat, inV (.int z) (nv L) = decide (∃ k ∈ L, (k : Int) = z)
  | [] => by simp [inV]
  | x :: L => by
    show (((x : Int) == z) || inV (.int z) (nv L)) = _
    rw [inV_z z L]
    by_cases h : (x : Int) = z
    · simp [h]
    · simp [h]
abbrev s_law_comes : Stmt := topS 74
abbrev N_law_comes : List Str := ["_law_found", "_law_n", "_law_y", "_law_x"]
theorem sc_law_comes : FnScope N_law_comes ["_law_found", "_law_n"] (fnScope s_law_comes) := ⟨rfl, rfl, rfl, by decide +kernel, rfl, by decide +kernel, by decide +kernel⟩
def spComes (K : PySem.W.Frag) : Sp := sp2 fun x y H Q => ∃ l, ∃ (L : List Nat) (n : Nat), x = .ref l ∧ y = .int n ∧ SqL K H l (nv L) ∧ ∀ (b : Bool) H', Ex H H' → (b = true ↔ ComesP L n) → Q (.bl b) H'
theorem c_law_comes (d : DefB K mg "_law_comes" s_law_comes ["_law_found", "_law_n"]) (Z : Zb mg) : Cal P w K mg base 1 "_law_comes" (spComes K) [] := by
  refine cal_of d sc_law_comes len2 fun vs0 H Q E h f0 cdv A outer s0 E' hr => ?_
  obtain ⟨x, y, rfl, l, L, n, rfl, rfl, hl, q⟩ := h
  refine ⟨_, (pss_cons (ps_for PassesOwn.never rfl (pi_listK K rfl (pe_revL (pv 0))) (pg_name (i := 2) sc_law_comes.nd rfl (Or.inl rfl))
        (pss_one (ps_for PassesOwn.never rfl (pi_listK K rfl (pv 0)) (pg_name (i := 3) sc_law_comes.nd rfl (Or.inl rfl))
          (pss_one (ps_if (PW.pt (pw_and (pt_cmpR op_le (pv 3) (pv 2) (nomark _)) (pw_and1 (pt_cmpR (op_inK K) (pe_op op_sub (pe_op op_add (pv 3) (pv 2)) (pv 1)) (pv 0) (by rfl)))))
            (pss_one (ps_ret pe_bl))
            pss_nil)))))
      (pss_one (ps_ret pe_bl))), ?_⟩
  refine ⟨_, rfl, l, _, rfl, hl, fun p hp => ⟨p, rfl, ⟨_, SqL.of upd_same⟩, ?_⟩⟩
  have x1 := ex_new (o := .lst (nv L).reverse) hp
  have hp1 : (upd H p (.lst (nv L).reverse)) p = some (.lst (nv L.reverse)) := by
    rw [upd_same]
    show some (HO.lst (List.map _ _).reverse) = some (HO.lst (List.map _ _))
    rw [List.map_reverse]
  generalize (upd H p (.lst (nv L).reverse)) = H1 at x1 hp1 ⊢
  have hl1 := ex_l x1 hl
  refine for_list (xs := nv L.reverse) (fun i σ H' => ∃ u v, σ = [some (.ref l), some (.int (n : Nat)), u, v] ∧ H' = H1 ∧ ∀ y ∈ L.reverse.take i, ∀ x ∈ L, ¬ (x ≤ y ∧ n ≤ x + y ∧ x + y - n ∈ L)) ⟨none, none, rfl, rfl, fun y hy => by simp at hy⟩ (fun i σ H' _ z => by obtain ⟨_, _, _, rfl, _⟩ := z; exact SqL.of hp1) ?_ ?_
  · rintro i x σ H2 hi ⟨u, v, rfl, rfl, hno⟩
    obtain ⟨y, hy, rfl⟩ := nv_at hi
    have hyL : y ∈ L := List.mem_reverse.mp (List.mem_of_getElem? hy)
    refine ⟨_, rfl, l, rfl, ⟨_, hl1⟩, for_list (xs := nv L) (fun j σ H' => ∃ v, σ = [some (.ref l), some (.int (n : Nat)), some (.int (y : Nat)), v] ∧ H' = H2 ∧ ∀ x ∈ L.take j, ¬ (x ≤ y ∧ n ≤ x + y ∧ x + y - n ∈ L)) ⟨v, rfl, rfl, fun x hx => by simp at hx⟩ (fun j σ H' _ z => by obtain ⟨_, _, rfl, _⟩ := z; exact hl1) ?_ ?_⟩
    · rintro j x σ H3 hj ⟨v, rfl, rfl, hno2⟩
      obtain ⟨x, hx, rfl⟩ := nv_at hj
      have hxL := List.mem_of_getElem? hx
      have stay : ¬ (x ≤ y ∧ n ≤ x + y ∧ x + y - n ∈ L) → ∃ v, [some (V.ref l), some (.int (n : Nat)), some (.int (y : Nat)), some (.int (x : Nat))] = [some (.ref l), some (.int (n : Nat)), some (.int (y : Nat)), v] ∧ H3 = H3 ∧ ∀ x ∈ L.take (j + 1), ¬ (x ≤ y ∧ n ≤ x + y ∧ x + y - n ∈ L) := fun hn => ⟨_, rfl, rfl, fun x' hx' => by
        rw [tk hx] at hx'
        rcases List.mem_append.mp hx' with h | h
        · exact hno2 x' h
        · rw [List.mem_singleton.mp h]; exact hn⟩
      refine ⟨_, rfl, _, rfl, x, y, rfl, rfl, _, rfl, ?_⟩
      by_cases hxy : x ≤ y
      · rw [decide_eq_true (show (x : Int) ≤ (y : Int) by omega)]
        refine ⟨_, rfl, _, rfl, x, y, rfl, rfl, _, rfl, _, n, rfl, rfl, _, rfl, l, _, rfl, .inl hl1, rfl, flat_nv L, _, rfl, ?_⟩
        rw [inV_z]
        by_cases hc : ∃ k ∈ L, (k : Int) = (x : Int) + (y : Int) - (n : Int)
        · rw [decide_eq_true hc]
          obtain ⟨k, hk, e⟩ := hc
          exact q true H3 x1 ⟨fun _ => ⟨y, hyL, x, hxL, hxy, by omega, by rw [show x + y - n = k by omega]; exact hk⟩, fun _ => rfl⟩
        · rw [decide_eq_false hc]
          exact stay fun ⟨_, h2, h3⟩ => hc ⟨_, h3, by omega⟩
      · rw [decide_eq_false (show ¬ (x : Int) ≤ (y : Int) by omega)]
        exact stay fun h => hxy h.1
    · rintro σ H3 ⟨v, rfl, rfl, hno2⟩
      rw [nv_len, List.take_length] at hno2
      refine ⟨_, _, rfl, rfl, fun y' hy' => ?_⟩
      rw [tk hy] at hy'
      rcases List.mem_append.mp hy' with h | h
      · exact hno y' h
      · rw [List.mem_singleton.mp h]; exact hno2
  · rintro σ H2 ⟨u, v, rfl, rfl, hno⟩
    rw [nv_len, List.take_length] at hno
    refine q false H2 x1 ⟨fun h => (by cases h), fun ⟨y, hy, x, hx, h⟩ => absurd h (hno y (List.mem_reverse.mpr hy) x hx)⟩
abbrev s_law_close : Stmt := topS 75
abbrev N_law_close : List Str := ["_law_counts", "_law_most", "_law_found", "_law_n"]
theorem sc_law_close : FnScope N_law_close ["_law_counts", "_law_most"] (fnScope s_law_close) := ⟨rfl, rfl, rfl, by decide +kernel, rfl, by decide +kernel, by decide +kernel⟩
def spClose (K : PySem.W.Frag) : Sp := sp2 fun x y H Q => ∃ a, ∃ (ns : List Nat) (m : Nat), x = .ref a ∧ y = .int m ∧ SqL K H a (nv ns) ∧ m ≤ 1000 ∧ ∀ p L H', Ex H H' → H p = none → H' p = some (.lst (nv L)) → L.length ≤ m + 1 → (∀ k, k ∈ L ↔ k ≤ m ∧ Cl (fun y => y ∈ ns) k) → Q (.ref p) H'
theorem c_law_close (d : DefB K mg "_law_close" s_law_close ["_law_counts", "_law_most"]) (Z : Zb mg) (c_law_comes : Cal P w K mg base 1 "_law_comes" (spComes K) []) : Cal P w K mg base 2 "_law_close" (spClose K) [] := by
  refine cal_of d sc_law_close len2 fun vs0 H Q E h f0 cdv A outer s0 E' hr => ?_
  obtain ⟨x, y, rfl, a, ns, m, rfl, rfl, ha, hm, q⟩ := h
  refine ⟨_, (pss_cons (ps_set (i := 2) sc_law_close.nd rfl (Or.inl rfl) (pe_lst (pa_cons pe_int pa_nil)))
      (pss_cons (ps_for PassesOwn.never rfl (pi_range2 (by rfl) Z.range (pa_cons pe_int (pa_cons (pe_op on_add (pv 1) pe_int) pa_nil))) (pg_name (i := 3) sc_law_close.nd rfl (Or.inl rfl))
        (pss_one (ps_if (PW.pt (pw_or (pt_cmpR (op_inK K) (pv 3) (pv 0) (by rfl)) (pw_or1 (pt_val (pe_c c_law_comes hr (by decide) (by rfl) (pa_cons (pv 2) (pa_cons (pv 3) pa_nil)))))))
          (pss_one (ps_expr (pe_bm PySem.F.plainAttrs_list PySem.F.slot_list_append PySem.F.type_list_append mt_append (pv 2) (pa_cons (pv 3) pa_nil))))
          pss_nil)))
      (pss_one (ps_ret (pv 2))))), ?_⟩
  refine ⟨by show 1 ≤ sizeLine; decide, fun l hln => ?_⟩
  have x1 := ex_new (o := .lst [V.int 0]) hln
  refine ⟨_, rfl, m, 1, rfl, rfl, 1, ((m + 1 : Nat) : Int), rfl, ⟨by decide, by decide, by omega, by omega⟩, ?_⟩
  rw [show ((m + 1 : Nat) : Int) - 1 = (m : Int) by omega, Int.toNat_natCast]
  refine for_range (lo := 1) (n := m) (fun i σ H' => ∃ L u, σ = [some (.ref a), some (.int (m : Nat)), some (.ref l), u] ∧ Ex H H' ∧ H' l = some (.lst (nv L)) ∧ L.length ≤ i + 1 ∧ ∀ k, k ∈ L ↔ k < i + 1 ∧ Cl (fun y => y ∈ ns) k) ⟨[0], none, rfl, x1, upd_same, Nat.le_refl 1, fun k => ?_⟩ ?_ ?_
  · rw [List.mem_singleton]
    exact ⟨fun h => by rw [h]; exact ⟨Nat.zero_lt_one, .zero⟩, fun h => by omega⟩
  · rintro i σ H2 hi ⟨L, u, rfl, e2, h2, hll, hL⟩
    have ei : (1 : Int) + (i : Int) = ((i + 1 : Nat) : Int) := by omega
    rw [ei]
    have hcl := cl_come (S := fun y => y ∈ ns) (Nat.succ_pos i) hL
    have yes : Cl (fun y => y ∈ ns) (i + 1) → ∀ k, k ∈ L ++ [i + 1] ↔ k < i + 1 + 1 ∧ Cl (fun y => y ∈ ns) k := fun hc k => by
      rw [List.mem_append, List.mem_singleton, hL]
      constructor
      · rintro (⟨h1, h2⟩ | rfl)
        · exact ⟨by omega, h2⟩
        · exact ⟨by omega, hc⟩
      · rintro ⟨h1, h2⟩
        by_cases e : k = i + 1
        · exact .inr e
        · exact .inl ⟨by omega, h2⟩
    have no : ¬ Cl (fun y => y ∈ ns) (i + 1) → ∀ k, k ∈ L ↔ k < i + 1 + 1 ∧ Cl (fun y => y ∈ ns) k := fun hc k => by
      rw [hL]
      constructor
      · rintro ⟨h1, h2⟩
        exact ⟨by omega, h2⟩
      · rintro ⟨h1, h2⟩
        by_cases e : k = i + 1
        · rw [e] at h2; exact absurd h2 hc
        · exact ⟨by omega, h2⟩
    have ll1 : (L ++ [i + 1]).length ≤ i + 1 + 1 := by rw [List.length_append, List.length_singleton]; omega
    refine ⟨_, rfl, _, rfl, a, _, rfl, .inl (ex_l e2 ha), rfl, flat_nv ns, _, rfl, ?_⟩
    rw [inV_nv]
    by_cases hin : i + 1 ∈ ns
    · rw [decide_eq_true hin]
      refine ⟨_, rfl, .inl ⟨rfl, _, SqL.of h2⟩, _, rfl, l, _, _, rfl, rfl, h2, sz_lt (by rw [nv_len]; omega), ?_⟩
      exact ⟨L ++ [i + 1], _, rfl, ex_mut e2 hln, by rw [upd_same, nv_snoc], ll1, yes (.mem hin)⟩
    · rw [decide_eq_false hin]
      refine ⟨_, rfl, _, rfl, _, _, rfl, l, L, i + 1, rfl, rfl, SqL.of h2, fun b H3 e3 hb => ⟨b, rfl, ?_⟩⟩
      have h3 := e3 _ _ h2
      cases b with
      | true =>
        refine ⟨_, rfl, .inl ⟨rfl, _, SqL.of h3⟩, _, rfl, l, _, _, rfl, rfl, h3, sz_lt (by rw [nv_len]; omega), ?_⟩
        exact ⟨L ++ [i + 1], _, rfl, ex_mut (e2.trans e3) hln, by rw [upd_same, nv_snoc], ll1, yes (hcl.mpr (.inr (hb.mp rfl)))⟩
      | false =>
        exact ⟨L, _, rfl, e2.trans e3, h3, by omega, no fun hc => (hcl.mp hc).elim hin fun h => Bool.noConfusion (hb.mpr h)⟩
  · rintro σ H2 ⟨L, u, rfl, e2, h2, hll, hL⟩
    exact ⟨_, rfl, q l L H2 e2 hln h2 hll fun k => (hL k).trans ⟨fun h => ⟨by omega, h.2⟩, fun h => ⟨by omega, h.2⟩⟩⟩
abbrev s_law_walked : Stmt := topS 76
abbrev N_law_walked : List Str := ["_law_counts", "_law_count", "_law_value", "_law_at", "_law_one", "_law_n"]
theorem sc_law_walked : FnScope N_law_walked ["_law_counts", "_law_count", "_law_value"] (fnScope s_law_walked) := ⟨rfl, rfl, rfl, by decide +kernel, rfl, by decide +kernel, by decide +kernel⟩
def spWalked (K : PySem.W.Frag) : Sp := sp3 fun x y z H Q => ∃ a p, ∃ (ns : List Nat) (n : Nat) (W : List Nat), x = .ref a ∧ y = .int n ∧ z = .ref p ∧ SqL K H a (nv ns) ∧ ns.length ≤ 1000 ∧ SqT K H p (nv W) ∧ WalkTo ns n W ∧ ∀ H', Ex H H' → Q (.bl true) H'
theorem c_law_walked (d : DefB K mg "_law_walked" s_law_walked ["_law_counts", "_law_count", "_law_value"]) (Z : Zb mg) : Cal P w K mg base 1 "_law_walked" (spWalked K) [] := by
  refine cal_of d sc_law_walked len3 fun vs0 H Q E h f0 cdv A outer s0 E' hr => ?_
  obtain ⟨x, y, z, rfl, a, p, ns, n, W, rfl, rfl, rfl, ha, hz, hp, hW, q⟩ := h
  refine ⟨_, (pss_cons (ps_if (PW.pt (pw_or (pt_not (pt_val (pe_callB (call_isiK1 K) (by rfl) Z.isinstance (by decide +kernel) (pa_cons (pv 2) (pa_cons (pe_bltn (v := .ty "tuple") rfl Z.tuple_ (by decide +kernel) rfl) pa_nil))))) (pw_or (pt_cmpR op_ne (pe_ix (ix_tupK K) (pv 2) pe_int (fun _ _ => rfl)) (pv 1) (nomark _)) (pw_or1 (pt_cmpR op_ne (pe_ix (ix_tupK K) (pv 2) (pe_un un_neg pe_int) (fun _ _ => rfl)) pe_int (nomark _))))))
        (pss_one (ps_ret pe_bl))
        pss_nil)
      (pss_cons (ps_for PassesOwn.never rfl (pi_enumT (by rfl) Z.enumerate (pa_cons (pe_slice (sl_tupK K) (pv 2) (po_some pe_int) po_none) pa_nil)) (pg_tupK K rfl 2 rfl (pgs_cons (pg_name (i := 3) sc_law_walked.nd rfl (Or.inl rfl)) (pgs_cons (pg_name (i := 4) sc_law_walked.nd rfl (Or.inl rfl)) pgs_nil)))
        (pss_one (ps_if (PW.pt (pw_or (pt_not (pt_chain op_le op_le pe_int (pv 4) (pv 1))) (pw_or1 (pt_cmpR (op_notInK K) (pe_callB call_abs (by rfl) Z.abs (by decide +kernel) (pa_cons (pe_op op_sub (pv 4) (pe_ix (ix_tupK K) (pv 2) (pv 3) (fun _ _ => rfl))) pa_nil)) (pe_lc (own := [("_law_n", 5)]) rfl sc_law_walked.nd (pi_listK K rfl (pv 0)) (blkOk_by (own := [("_law_n", 5)]) (N := N_law_walked) (sc := fnScope s_law_walked) (by decide +kernel)) (fun _ _ _ _ _ => (pg_name (i := 5) sc_law_walked.nd rfl (Or.inl rfl))) (fun _ _ _ _ _ => (pts_one (pt_cmpR op_gt (pv 5) pe_int (nomark _)))) (fun _ _ _ _ _ => (pv 5))) (by rfl)))))
          (pss_one (ps_ret pe_bl))
          pss_nil)))
      (pss_one (ps_ret pe_bl)))), ?_⟩
  obtain ⟨W', hW'⟩ := last_split hW.last
  have hlast : SqT K H p (nv W' ++ [V.int (0 : Nat)]) := by rw [← nv_snoc, ← hW']; exact hp
  have hWl : 0 < W.length := (List.getElem?_eq_some_iff.mp hW.first).1
  refine ⟨_, rfl, _, _, _, _, true, rfl, .ty "tuple", tyT hp, kit_ty (by decide +kernel), true, rfl, ?_⟩
  refine ⟨_, rfl, p, _, 0, _, rfl, rfl, hp, atI_nat (j := 0) (nv_get hW.first), _, rfl, rfl, _, rfl, ?_⟩
  rw [decide_eq_true (rfl : V.int (n : Nat) = V.int (n : Nat))]
  refine ⟨_, rfl, 1, rfl, p, _, -1, _, rfl, rfl, hlast, atI_last _ _, rfl, _, rfl, ?_⟩
  rw [decide_eq_true (show V.int ((0 : Nat) : Int) = V.int 0 from rfl)]
  refine ⟨_, rfl, 1, rfl, p, _, rfl, hp, fun hw => ?_, fun _ p1 hp1 => ?_⟩
  · have := hw.1
    rw [show ((1 : Int)) = ((1 : Nat) : Int) from rfl, HT.sIx_nat, nv_len, Nat.min_eq_left (by omega)] at this
    omega
  have hcut : cutV (nv W) (some 1) none = nv (W.drop 1) := by
    unfold cutV
    rw [show ((1 : Int)) = ((1 : Nat) : Int) from rfl, HT.sIx_nat, HT.sIx_none, nv_len, Nat.min_eq_left (by omega), List.take_of_length_le (by rw [List.length_drop, nv_len]; omega), ← List.map_drop]
  rw [hcut]
  have x1 := ex_new (o := .tup (nv (W.drop 1))) hp1
  have hp1' : SqT K (upd H p1 (.tup (nv (W.drop 1)))) p1 (nv (W.drop 1)) := SqT.of upd_same
  generalize (upd H p1 (.tup (nv (W.drop 1)))) = H1 at x1 hp1' ⊢
  refine ⟨p1, _, rfl, hp1', for_enT (xs := nv (W.drop 1)) (fun i σ H' => ∃ u v, σ = [some (.ref a), some (.int (n : Nat)), some (.ref p), u, v, none] ∧ Ex H1 H') ⟨none, none, rfl, Ex.refl _⟩ (fun i σ H' _ z => by obtain ⟨_, _, _, e⟩ := z; exact ex_t e hp1') ?_ ?_⟩
  · rintro i x t σ H2 hi ⟨u, v, rfl, e2⟩ ht
    obtain ⟨y, hy, rfl⟩ := nv_at hi
    rw [List.getElem?_drop, Nat.add_comm] at hy
    obtain ⟨x, hx⟩ : ∃ x, W[i]? = some x := ⟨_, List.getElem?_eq_getElem (by have := (List.getElem?_eq_some_iff.mp hy).1; omega)⟩
    obtain ⟨l, ⟨hl1, hl2⟩, hl3⟩ := hW.nb i x y hx hy
    have hyn := hW.le y (List.mem_of_getElem? hy)
    have x3 := ex_new (o := .tup [.int (i : Nat), .int (y : Nat)]) ht
    refine ⟨t, _, rfl, SqT.of upd_same, rfl, _, _, rfl, _, _, rfl, rfl, ?_⟩
    have e3 := e2.trans x3
    generalize (upd H2 t (.tup [.int (i : Nat), .int (y : Nat)])) = H3 at x3 e3 ⊢
    refine ⟨_, rfl, 0, y, rfl, rfl, _, rfl, ?_⟩
    rw [decide_eq_true (show (0 : Int) ≤ (y : Int) by omega)]
    refine ⟨_, rfl, y, n, rfl, rfl, _, rfl, ?_⟩
    rw [decide_eq_true (show (y : Int) ≤ (n : Int) by omega)]
    have ha3 := ex_l (x1.trans e3) ha
    refine ⟨_, rfl, _, rfl, _, rfl, p, _, i, _, rfl, rfl, ex_t (x1.trans e3) hp, atI_nat (nv_get hx), y, x, rfl, rfl, _, rfl, _, rfl, a, rfl, ⟨_, ha3⟩, fun D hD => cmL (fun j acc _ => acc = nv ((ns.take j).filter fun c => decide (0 < c))) (steady_val _) hD rfl ha3 (by rw [nv_len]; omega) ?_ ?_⟩
    · intro j x' hj acc H4 QF QT e4 hd p4 kF kT
      obtain ⟨c, hc, rfl⟩ := nv_at hj
      refine ⟨rfl, _, rfl, c, 0, rfl, rfl, _, rfl, ?_⟩
      by_cases h0 : 0 < c
      · rw [decide_eq_true (show (c : Int) > 0 by omega)]
        refine ⟨_, rfl, kT _ _ (Ex.refl _) ?_⟩
        show acc ++ [V.int (c : Nat)] = nv ((ns.take (j + 1)).filter fun c => decide (0 < c))
        rw [show acc = _ from p4, tk_yes hc (decide_eq_true h0), ← nv_snoc]
      · rw [decide_eq_false (show ¬ (c : Int) > 0 by omega)]
        refine kF _ (Ex.refl _) ?_
        show acc = nv ((ns.take (j + 1)).filter fun c => decide (0 < c))
        rw [show acc = _ from p4, tk_no hc (decide_eq_false h0)]
    · intro acc H4 e4 hd p4
      have p' : acc = nv ((ns.take (nv ns).length).filter fun c => decide (0 < c)) := p4
      rw [nv_len, List.take_length] at p'
      subst p'
      refine ⟨D, _, rfl, .inl (SqL.of hd), rfl, flat_nv _, _, rfl, ?_⟩
      have hin : ∃ k ∈ ns.filter (fun c => decide (0 < c)), (k : Int) = (if (y : Int) - (x : Int) < 0 then -((y : Int) - (x : Int)) else (y : Int) - (x : Int)) :=
        ⟨l, List.mem_filter.mpr ⟨hl1, decide_eq_true hl2⟩, by split <;> omega⟩
      rw [inV_z, decide_eq_true hin]
      exact ⟨_, _, rfl, e3.trans e4⟩
  · rintro σ H2 ⟨u, v, rfl, e2⟩
    exact q H2 (x1.trans e2)
end
end Bf
namespace Bf
open PySem PySem.Spec PyProof.Rows L2 RZ PpSet
open C8 (Cal Met Mak Def cal0 met0 mak0 pe_c pe_mk pe_mt pe_mt0 fnScope fnBody InsC call_isC tCut pss_cut)
open Evl (Ex ex_l ex_t ex_rd fresh_back sz_of sz_lt)
section
variable {P : Program} {w : World} {K : PySem.W.Frag} {mg : Str → Option Value} {base : Heap}
abbrev s_law_parts : Stmt := topS 77
abbrev N_law_parts : List Str := ["_law_machine_here", "_law_counts", "_law_count", "_law_one", "_law_other", "_law_row", "_law_n"]
theorem sc_law_parts : FnScope N_law_parts ["_law_machine_here", "_law_counts", "_law_count"] (fnScope s_law_parts) := ⟨rfl, rfl, rfl, by decide +kernel, rfl, by decide +kernel, by decide +kernel⟩
def spParts (K : PySem.W.Frag) (CM : Addr) : Sp := sp3 fun x y z H Q => ∃ m a, ∃ (rows : List (List Nat)) (ns : List Nat) (n : Nat), x = .ref m ∧ y = .ref a ∧ z = .int n ∧ Mach K CM H m 2 rows ∧ MW 2 rows ∧ SqL K H a (nv ns) ∧ ns.length ≤ 1000 ∧ (∀ c ∈ ns, pw (col rows 0) c = pw (col rows 1) c) ∧ pw (col rows 0) n ≠ pw (col rows 1) n ∧ ∀ H', Ex H H' → Q (.bl true) H'
theorem c_law_parts {CM : Addr} (d : DefB K mg "_law_parts" s_law_parts ["_law_machine_here", "_law_counts", "_law_count"]) (T : Mx K mg CM) (Z : Zb mg) (c_law_power : Cal P w K mg base 1 "_law_power" (spRaised K) []) : Cal P w K mg base 2 "_law_parts" (spParts K CM) [] := by
  refine cal_of d sc_law_parts len3 fun vs0 H Q E h f0 cdv A outer s0 E' hr => ?_
  obtain ⟨x, y, z, rfl, m, a, rows, ns, n, rfl, rfl, rfl, ⟨dx, sp, fd, zs, hm, hsp, ht⟩, hw, ha, hz, hag, hne, q⟩ := h
  have nz := hw.nz
  have zl : zs.length = rows.length := ht.1
  refine ⟨_, (pss_cons (ps_asg (pe_tup (pa_cons (pe_callTy (call_tupK K) (by rfl) Z.tuple_ (by decide +kernel) (pa_cons (pe_lc (own := [("_law_row", 5)]) rfl sc_law_parts.nd (pi_tupK K rfl (pe_fldK K rfl (pv 0) rfl)) (blkOk_by (own := [("_law_row", 5)]) (N := N_law_parts) (sc := fnScope s_law_parts) (by decide +kernel)) (fun _ _ _ _ _ => (pg_name (i := 5) sc_law_parts.nd rfl (Or.inl rfl))) (fun _ _ _ _ _ => pts_nil) (fun _ _ _ _ _ => (pe_ix (ix_tupK K) (pv 5) pe_int (fun _ _ => rfl)))) pa_nil)) (pa_cons (pe_callTy (call_tupK K) (by rfl) Z.tuple_ (by decide +kernel) (pa_cons (pe_lc (own := [("_law_row", 5)]) rfl sc_law_parts.nd (pi_tupK K rfl (pe_fldK K rfl (pv 0) rfl)) (blkOk_by (own := [("_law_row", 5)]) (N := N_law_parts) (sc := fnScope s_law_parts) (by decide +kernel)) (fun _ _ _ _ _ => (pg_name (i := 5) sc_law_parts.nd rfl (Or.inl rfl))) (fun _ _ _ _ _ => pts_nil) (fun _ _ _ _ _ => (pe_ix (ix_tupK K) (pv 5) pe_int (fun _ _ => rfl)))) pa_nil)) pa_nil))) (pg_tupK K rfl 2 rfl (pgs_cons (pg_name (i := 3) sc_law_parts.nd rfl (Or.inr rfl)) (pgs_cons (pg_name (i := 4) sc_law_parts.nd rfl (Or.inr rfl)) pgs_nil))))
      (pss_cons (ps_if (pt_cmpR (op_neK K rfl hr.units) (pe_lc (own := [("_law_n", 6)]) rfl sc_law_parts.nd (pi_listK K rfl (pv 1)) (blkOk_by (own := [("_law_n", 6)]) (N := N_law_parts) (sc := fnScope s_law_parts) (by decide +kernel)) (fun _ _ _ _ _ => (pg_name (i := 6) sc_law_parts.nd rfl (Or.inl rfl))) (fun _ _ _ _ _ => (pts_one (pt_cmpR (op_neK K rfl hr.units) (pe_c c_law_power hr (by decide) (by rfl) (pa_cons (pv 3) (pa_cons (pv 6) pa_nil))) (pe_c c_law_power hr (by decide) (by rfl) (pa_cons (pv 4) (pa_cons (pv 6) pa_nil))) (nomark _)))) (fun _ _ _ _ _ => (pv 6))) (pe_lst pa_nil) (nomark _))
        (pss_one (ps_ret pe_bl))
        pss_nil)
      (pss_one (ps_ret (pe_cmpR (op_neK K rfl hr.units) (pe_c c_law_power hr (by decide) (by rfl) (pa_cons (pv 3) (pa_cons (pv 2) pa_nil))) (pe_c c_law_power hr (by decide) (by rfl) (pa_cons (pv 4) (pa_cons (pv 2) pa_nil))) (nomark _)))))), ?_⟩
  have turn : ∀ (k : Nat), k < 2 → ∀ (H1 : Hp) (D : Addr) (i : Nat) (x : V), Ex H H1 → zs[i]? = some x → CTurn H1 D (fun i acc _ => acc = nv (col (rows.take i) k)) (gName 5) tYes (tOp (rIxT K) (tVar 5) (tC (.int (k : Nat)))) [5] [some (.ref m), some (.ref a), some (.int (n : Nat)), none, none, none, none] i x := by
    intro k hk H1 D i x e1 hi acc H2 QF QT e hd p kF kT
    have hil : i < rows.length := by rw [← zl]; exact (List.getElem?_eq_some_iff.mp hi).1
    obtain ⟨p2, h1, h2⟩ := ht.2 i rows[i] (List.getElem?_eq_getElem hil)
    rw [hi] at h1
    cases h1
    have hlen := hw.len _ (List.getElem_mem hil)
    have hkr : k < rows[i].length := by omega
    refine ⟨rfl, .ref p2, rfl, p2, _, k, .int (rows[i].getD k 0 : Nat), rfl, rfl, ex_t (e1.trans e) h2, atI_nat (nv_get ?_), kT _ _ (Ex.refl _) ?_⟩
    · rw [List.getD_eq_getElem?_getD, List.getElem?_eq_getElem hkr]
      rfl
    · show acc ++ [V.int (rows[i].getD k 0 : Nat)] = nv (col (rows.take (i + 1)) k)
      rw [show acc = _ from p, tk (List.getElem?_eq_getElem hil)]
      unfold col
      rw [List.map_append, ← nv_snoc]
      rfl
  have c0 : Chg (col rows 0) := col_chg hw (by decide)
  have c1 : Chg (col rows 1) := col_chg hw (by decide)
  have l0 := col_len rows 0
  have l1 := col_len rows 1
  refine ⟨.ref m, rfl, m, CM, dx, _, _, rfl, hm, T.cl, T.nS, mf_steps, sp, rfl, ⟨_, hsp⟩, fun D hD => cmT (fun i acc _ => acc = nv (col (rows.take i) 0)) (steady_val _) hD rfl hsp (by rw [zl]; omega) (fun i x hi => turn 0 (by decide) H D i x (Ex.refl _) hi) ?_⟩
  intro acc H1 e1 hd1 p
  have p' : acc = nv (col (rows.take zs.length) 0) := p
  rw [zl, List.take_length] at p'
  subst p'
  refine ⟨D, _, rfl, .inl ⟨SqL.of hd1, fun t1 ht1 => ?_⟩⟩
  have x2 := ex_new (o := .tup (nv (col rows 0))) ht1
  have e2 := e1.trans x2
  have ht12 : SqT K (upd H1 t1 (.tup (nv (col rows 0)))) t1 (nv (col rows 0)) := SqT.of upd_same
  generalize (upd H1 t1 (.tup (nv (col rows 0)))) = H2 at x2 e2 ht12 ⊢
  refine ⟨.ref m, rfl, m, CM, dx, _, _, rfl, e2 _ _ hm, T.cl, T.nS, mf_steps, sp, rfl, ⟨_, ex_t e2 hsp⟩, fun D2 hD2 => cmT (fun i acc _ => acc = nv (col (rows.take i) 1)) (steady_val _) hD2 rfl (ex_t e2 hsp) (by rw [zl]; omega) (fun i x hi => turn 1 (by decide) H2 D2 i x e2 hi) ?_⟩
  intro acc H3 e3 hd3 p
  have p' : acc = nv (col (rows.take zs.length) 1) := p
  rw [zl, List.take_length] at p'
  subst p'
  refine ⟨D2, _, rfl, .inl ⟨SqL.of hd3, fun t2 ht2 => ?_⟩⟩
  have x4 := ex_new (o := .tup (nv (col rows 1))) ht2
  have e4 := (e2.trans e3).trans x4
  have ht14 := ex_t (e3.trans x4) ht12
  have ht24 : SqT K (upd H3 t2 (.tup (nv (col rows 1)))) t2 (nv (col rows 1)) := SqT.of upd_same
  generalize (upd H3 t2 (.tup (nv (col rows 1)))) = H4 at x4 e4 ht14 ht24 ⊢
  refine ⟨by show 2 ≤ sizeLine; decide, fun tp htp => ⟨tp, _, rfl, SqT.of upd_same, rfl, _, _, rfl, _, _, rfl, rfl, ?_⟩⟩
  have x5 := ex_new (o := .tup [.ref t1, .ref t2]) htp
  have e5 := e4.trans x5
  have ht15 := ex_t x5 ht14
  have ht25 := ex_t x5 ht24
  generalize (upd H4 tp (.tup [.ref t1, .ref t2])) = H5 at x5 e5 ht15 ht25 ⊢
  have ha5 := ex_l e5 ha
  refine ⟨_, rfl, a, rfl, ⟨_, ha5⟩, fun D3 hD3 => cmL (fun i acc _ => acc = []) (steady_val _) hD3 rfl ha5 (by rw [nv_len]; omega) ?_ ?_⟩
  · intro i x hi acc H6 QF QT e6 hd p6 kF kT
    obtain ⟨c, hc, rfl⟩ := nv_at hi
    refine ⟨rfl, _, rfl, _, rfl, _, _, rfl, t1, _, c, rfl, rfl, ex_t e6 ht15, c0, by rw [l0]; omega, fun p1 H7 e7 hp1 => ?_⟩
    refine ⟨_, rfl, _, rfl, _, _, rfl, t2, _, c, rfl, rfl, ex_t e7 (ex_t e6 ht25), c1, by rw [l1]; omega, fun p2 H8 e8 hp2 => ?_⟩
    refine rdNeT (ex_t e8 hp1) hp2 ⟨_, rfl, ?_⟩
    rw [decide_eq_true (hag c (List.mem_of_getElem? hc)), Bool.not_true]
    exact kF _ (e7.trans e8) p6
  · intro acc H6 e6 hd6 p6
    have p' : acc = [] := p6
    subst p'
    refine ⟨by show 0 ≤ sizeLine; decide, fun n1 hn1 => rdNeL (xs := []) (ys := []) (SqL.of (ex_new hn1 _ _ hd6)) (SqL.of upd_same) ⟨_, rfl, ?_⟩⟩
    rw [decide_eq_true (rfl : ([] : List Nat) = [])]
    have x7 := e6.trans (ex_new (o := .lst []) hn1)
    generalize (upd H6 n1 (.lst [])) = H7 at x7 ⊢
    refine ⟨_, rfl, _, rfl, _, _, rfl, t1, _, n, rfl, rfl, ex_t x7 ht15, c0, by rw [l0]; omega, fun p1 H8 e8 hp1 => ?_⟩
    refine ⟨_, rfl, _, rfl, _, _, rfl, t2, _, n, rfl, rfl, ex_t e8 (ex_t x7 ht25), c1, by rw [l1]; omega, fun p2 H9 e9 hp2 => ?_⟩
    refine rdNeT (ex_t e9 hp1) hp2 ?_
    rw [decide_eq_false hne]
    exact q _ (((e5.trans x7).trans e8).trans e9)
abbrev s_law_follows_right : Stmt := topS 79
abbrev N_law_follows_right : List Str := ["_law_counts", "_law_count", "_law_close_here", "_law_told"]
theorem sc_law_follows_right : FnScope N_law_follows_right ["_law_counts", "_law_count", "_law_close_here"] (fnScope s_law_follows_right) := ⟨rfl, rfl, rfl, by decide +kernel, rfl, by decide +kernel, by decide +kernel⟩
def swp {α : Type} : List α → List α
  | [a, b] => [b, a]
  | l => l
theorem swp_rel {zs : List V} {ws : List Value} (h : Vals zs ws) : Vals (swp zs) (swp ws) := by
  cases h with
  | nil => exact .nil
  | cons h1 h2 =>
    cases h2 with
    | nil => exact .cons h1 .nil
    | cons h3 h4 =>
      cases h4 with
      | nil => exact .cons h3 (.cons h1 .nil)
      | cons h5 h6 => exact .cons h1 (.cons h3 (.cons h5 h6))
theorem swp_len {zs : List V} (h : (swp zs).length = 2) : zs.length = 2 := by
  match zs, h with
  | [], h => exact h
  | [_], h => exact h
  | [_, _], _ => rfl
  | _ :: _ :: _ :: _, h => exact h
theorem kb_walk (kV doc pm : Value) (an : Option Addr) (cdv ct : Value) (ws : List Value) (h : ws.length = (["count", "counts"] : List Str).length) :
    bindArgs (PySem.W.fnOf "walk" "walk" (C8.fnArgs s_walk) (fnBody s_walk) (fnScope s_walk) .none kV doc pm an cdv ct) ⟨[], (["count", "counts"] : List Str).zip ws⟩ = pure ((["counts", "count"] : List Str).zip (swp ws)) := by
  match ws, h with
  | [_, _], _ => rfl
theorem kb_machine_against (kV doc pm : Value) (an : Option Addr) (cdv ct : Value) (ws : List Value) (h : ws.length = (["count", "counts"] : List Str).length) :
    bindArgs (PySem.W.fnOf "machine_against" "machine_against" (C8.fnArgs s_machine_against) (fnBody s_machine_against) (fnScope s_machine_against) .none kV doc pm an cdv ct) ⟨[], (["count", "counts"] : List Str).zip ws⟩ = pure ((["counts", "count"] : List Str).zip (swp ws)) := by
  match ws, h with
  | [_, _], _ => rfl
def spFollows (K : PySem.W.Frag) (CM : Addr) : Sp := sp3 fun x y z H Q => ∃ a l, ∃ (ns L : List Nat) (n : Nat), x = .ref a ∧ y = .int n ∧ z = .ref l ∧ SqL K H a (nv ns) ∧ ns.length ≤ 60 ∧ SqL K H l (nv L) ∧ n ≤ 24 ∧ (∀ k, k ∈ L ↔ k ≤ 24 ∧ Cl (fun y => y ∈ ns) k) ∧ ∀ H', Ex H H' → Q (.bl true) H'
theorem c_law_follows_right {CM : Addr} (d : DefB K mg "_law_follows_right" s_law_follows_right ["_law_counts", "_law_count", "_law_close_here"]) (T : Mx K mg CM) (Z : Zb mg) (c_law_parts : Cal P w K mg base 2 "_law_parts" (spParts K CM) []) (c_law_walked : Cal P w K mg base 1 "_law_walked" (spWalked K) [])
    (D_machine_against : CalD P w K mg base 7 "machine_against" s_machine_against ["counts", "count"] (spAgainst K CM)) (D_walk : CalD P w K mg base 5 "walk" s_walk ["counts", "count"] (spWalk K)) : Cal P w K mg base 8 "_law_follows_right" (spFollows K CM) [] := by
  have c_walk := D_walk.kw kb_walk swp_rel swp_len
  have c_machine_against := D_machine_against.kw kb_machine_against swp_rel swp_len
  refine cal_of d sc_law_follows_right len3 fun vs0 H Q E h f0 cdv A outer s0 E' hr => ?_
  obtain ⟨x, y, z, rfl, a, l, ns, L, n, rfl, rfl, rfl, ha, hz, hl, hn, hL, q⟩ := h
  refine ⟨_, (pss_cons (ps_set (i := 3) sc_law_follows_right.nd rfl (Or.inl rfl) (pe_ck c_walk hr (by decide) (by rfl) (pk_cons (pv 1) (pk_cons (pv 0) pk_nil))))
      (pss_cons (ps_if (pt_cmpR (op_inK K) (pv 1) (pv 2) (by rfl))
        (pss_one (ps_ret (pe_c c_law_walked hr (by decide) (by rfl) (pa_cons (pv 0) (pa_cons (pv 1) (pa_cons (pv 3) pa_nil))))))
        pss_nil)
      (pss_one (ps_ret (pe_and (pe_cmpR op_isN (pv 3) pe_non (nomark _)) (pe_one (pe_c c_law_parts hr (by decide) (by rfl) (pa_cons (pe_ck c_machine_against hr (by decide) (by rfl) (pk_cons (pv 1) (pk_cons (pv 0) pk_nil))) (pa_cons (pv 0) (pa_cons (pv 1) pa_nil)))))))))), ?_⟩
  refine ⟨_, rfl, _, rfl, _, _, rfl, a, ns, n, rfl, rfl, ha, hz, by omega, fun H1 e1 hc => ?_, fun p W H1 e1 hp hc hW => ?_⟩
  · refine ⟨_, rfl, _, rfl, l, _, rfl, .inl (ex_l e1 hl), rfl, flat_nv L, _, rfl, ?_⟩
    rw [inV_nv]
    have hnL : ¬ n ∈ L := fun h => hc ((hL n).mp h).2
    rw [decide_eq_false hnL]
    refine ⟨_, rfl, rfl, _, rfl, ?_⟩
    rw [decide_eq_true (rfl : V.non = V.non)]
    refine ⟨_, rfl, _, rfl, _, _, rfl, a, ns, n, rfl, rfl, ex_l e1 ha, hz, by omega, hc, fun p rows H2 e2 hM hw hag hne => ?_⟩
    have e12 := e1.trans e2
    refine ⟨_, rfl, _, rfl, _, _, _, rfl, p, a, rows, ns, n, rfl, rfl, rfl, hM, hw, ex_l e12 ha, by omega, hag, hne, fun H3 e3 => ?_⟩
    exact q H3 (e12.trans e3)
  · refine ⟨_, rfl, _, rfl, l, _, rfl, .inl (ex_l e1 hl), rfl, flat_nv L, _, rfl, ?_⟩
    rw [inV_nv]
    have hnL : n ∈ L := (hL n).mpr ⟨hn, hc⟩
    rw [decide_eq_true hnL]
    exact ⟨_, rfl, _, rfl, _, rfl, _, _, _, rfl, a, p, ns, n, W, rfl, rfl, rfl, ex_l e1 ha, by omega, hp, hW, fun H2 e2 => q H2 (e1.trans e2)⟩
end
end Bf
namespace Bf
open PySem PySem.Spec PyProof.Rows L2 RZ PpSet
open C8 (Cal Met Mak Def cal0 met0 mak0 pe_c pe_mk pe_mt pe_mt0 fnScope fnBody InsC call_isC tCut pss_cut)
open Evl (Ex ex_l ex_t ex_rd fresh_back sz_of sz_lt)
section
variable {P : Program} {w : World} {K : PySem.W.Frag} {mg : Str → Option Value} {base : Heap}
theorem Mach.exD {CM : Addr} {H H' : Hp} {d c m : Addr} {C : Nat} {rows : List (List Nat)} (h : Mach K CM H m C rows) (hD : Deal d c H) (e : ExD d c H H') : Mach K CM H' m C rows := by
  obtain ⟨dm, sp, fd, vs, h1, h2, h3⟩ := h
  have n := hD.ne h1 (by intro z q; cases q)
  exact ⟨dm, sp, fd, vs, e _ _ n.1 n.2 h1, exD_t hD e h2, h3.exD hD e⟩
/-- what stands behind the machine -/
structure PA (K : PySem.W.Frag) (CM d c l m o1 o2 : Addr) (vs : List V) (cs : List (List Nat)) (N C : Nat) (row1 row2 : List Nat) (H : Hp) : Prop where
  D : Deal d c H
  lv : H l = some (.lst vs)
  tv : Tups K H vs cs
  M : Mach K CM H m C (tr cs N)
  r1 : SqT K H o1 (nv row1)
  r2 : SqT K H o2 (nv row2)
theorem PA.ex {CM d c l m o1 o2 : Addr} {vs : List V} {cs : List (List Nat)} {N C : Nat} {row1 row2 : List Nat} {H H' : Hp} (h : PA K CM d c l m o1 o2 vs cs N C row1 row2 H) (e : Ex H H') : PA K CM d c l m o1 o2 vs cs N C row1 row2 H' :=
  ⟨h.D.ex e, e _ _ h.lv, h.tv.ex e, h.M.ex e, ex_t e h.r1, ex_t e h.r2⟩
/-- what stands when the good counts are known -/
structure PB (K : PySem.W.Frag) (CM d c m o1 o2 lg : Addr) (C : Nat) (rows : List (List Nat)) (row1 row2 goods : List Nat) (H : Hp) : Prop where
  D : Deal d c H
  M : Mach K CM H m C rows
  r1 : SqT K H o1 (nv row1)
  r2 : SqT K H o2 (nv row2)
  g : H lg = some (.lst (nv goods))
  n : lg ≠ d ∧ lg ≠ c
section
variable {CM d c m o1 o2 lg : Addr} {C : Nat} {rows : List (List Nat)} {row1 row2 goods : List Nat} {H H' : Hp}
theorem PB.ex (h : PB K CM d c m o1 o2 lg C rows row1 row2 goods H) (e : Ex H H') : PB K CM d c m o1 o2 lg C rows row1 row2 goods H' := ⟨h.D.ex e, h.M.ex e, ex_t e h.r1, ex_t e h.r2, e _ _ h.g, h.n⟩
theorem PB.exD (h : PB K CM d c m o1 o2 lg C rows row1 row2 goods H) (e : ExD d c H H') (hD : Deal d c H') : PB K CM d c m o1 o2 lg C rows row1 row2 goods H' :=
  ⟨hD, h.M.exD h.D e, exD_t h.D e h.r1, exD_t h.D e h.r2, e _ _ h.n.1 h.n.2 h.g, h.n⟩
end
/-- a drawn row -/
theorem r_row {d c l : Addr} {vs : List V} {σ : L2.St} {x0 x3 x4 x5 x6 : Option V} {H : Hp} {Q : VK} (hD : Deal d c H) (hl : H l = some (.lst vs)) (nl : l ≠ d ∧ l ≠ c) (hv : 1 ≤ vs.length) (hv2 : vs.length ≤ 1000)
    (q : ∀ p f H', ExD d c H H' → Deal d c H' → SqT K H' p (nv f) → (∀ x ∈ f, x < vs.length) → f.length ≤ 3 → Q (.ref p) H') :
    tCB (rTupOf K) (tCons (tLc (iRng1 (tCons (tCall spAny [] C8.E0 (tCons (tVar 1) (tCons (tC (.int 4)) tNil))) tNil)) (gName 6) tYes (tCall spAny [] C8.E0 (tCons (tVar 1) (tCons (tCB (rLen K) (tCons (tVar 2) tNil)) tNil))) [6]) tNil)
      (x0 :: some (V.ref d) :: some (V.ref l) :: x3 :: x4 :: x5 :: x6 :: σ) H Q := by
  refine ⟨_, rfl, _, _, rfl, d, c, 4, rfl, rfl, by decide, by decide, hD, fun v H1 hv1 e1 hD1 => ⟨v, rfl, by omega, by omega, fun D hDn => ?_⟩⟩
  have fD := hD1.fresh hDn
  refine lc_rng (n := v) (fun i H' => ∃ f, ExD d c H1 H' ∧ Deal d c H' ∧ H' D = some (.lst (nv f)) ∧ f.length = i ∧ ∀ x ∈ f, x < vs.length) ⟨[], exD_of (ex_new hDn), hD1.ex (ex_new hDn), upd_same, rfl, fun x hx => absurd hx List.not_mem_nil⟩ ?_ ?_
  · rintro i H2 hi ⟨f, e2, hD2, hd2, hf, hfl⟩
    have hl2 := e2 _ _ nl.1 nl.2 (e1 _ _ nl.1 nl.2 hl)
    refine ⟨rfl, _, rfl, _, rfl, l, _, rfl, .inl (SqL.of hl2), _, _, rfl, d, c, vs.length, rfl, rfl, hv, by omega, hD2, fun u H3 hu e3 hD3 => ⟨nv f, e3 _ _ fD.1 fD.2 hd2, sz_lt (by rw [nv_len]; omega), ?_⟩⟩
    refine ⟨f ++ [u], (e2.trans e3).mut hDn, hD3.upd fD, by rw [upd_same, nv_snoc], by rw [List.length_append, List.length_singleton, hf], fun x hx => ?_⟩
    rcases List.mem_append.mp hx with h | h
    · exact hfl x h
    · rw [List.mem_singleton.mp h]; exact hu
  · rintro H2 ⟨f, e2, hD2, hd2, hf, hfl⟩
    exact ⟨D, _, rfl, .inl ⟨SqL.of hd2, fun p hp => q p f _ ((e1.trans e2).trans (exD_of (ex_new hp))) (hD2.ex (ex_new hp)) (SqT.of upd_same) hfl (by omega)⟩⟩
def rv3 {α : Type} : List α → List α
  | [a, b, c] => [c, b, a]
  | l => l
theorem rv3_rel {zs : List V} {ws : List Value} (h : Vals zs ws) : Vals (rv3 zs) (rv3 ws) := by
  cases h with
  | nil => exact .nil
  | cons h1 h2 =>
    cases h2 with
    | nil => exact .cons h1 .nil
    | cons h3 h4 =>
      cases h4 with
      | nil => exact .cons h1 (.cons h3 .nil)
      | cons h5 h6 =>
        cases h6 with
        | nil => exact .cons h5 (.cons h3 (.cons h1 .nil))
        | cons h7 h8 => exact .cons h1 (.cons h3 (.cons h5 (.cons h7 h8)))
theorem rv3_len {zs : List V} (h : (rv3 zs).length = 3) : zs.length = 3 := by
  match zs, h with
  | [], h => exact h
  | [_], h => exact h
  | [_, _], h => exact h
  | [_, _, _], _ => rfl
  | _ :: _ :: _ :: _ :: _, h => exact h
theorem kb_agreeing (kV doc pm : Value) (an : Option Addr) (cdv ct : Value) (ws : List Value) (h : ws.length = (["other", "one", "machine"] : List Str).length) :
    bindArgs (PySem.W.fnOf "agreeing" "agreeing" (C8.fnArgs s_agreeing) (fnBody s_agreeing) (fnScope s_agreeing) .none kV doc pm an cdv ct) ⟨[], (["other", "one", "machine"] : List Str).zip ws⟩ = pure ((["machine", "one", "other"] : List Str).zip (rv3 ws)) := by
  match ws, h with
  | [_, _, _], _ => rfl
abbrev s_law : Stmt := topS 80
abbrev N_law : List Str := ["_law_script", "_law_deal", "_law_some", "_law_machine_here", "_law_one", "_law_other", "_law_turn", "_law_first", "_law_second", "_law_good", "_law_ends", "_law_count", "_law_told", "_law_great", "_law_counts", "_law_close_here", "_law_shown"]
theorem sc_law : FnScope N_law ["_law_script"] (fnScope s_law) := ⟨rfl, rfl, rfl, by decide +kernel, rfl, by decide +kernel, by decide +kernel⟩
def spLaw (K : PySem.W.Frag) : Sp := fun vs H Q _ => ∃ (a : Addr) (ns : List Int), vs = [V.ref a] ∧ SqL K H a (ns.map V.int) ∧ ns.length ≤ 63 ∧ ∀ H', Q (.bl true) H'
theorem c_law {CM CB CR : Addr} (d : DefB K mg "law" s_law ["_law_script"]) (T : Mx K mg CM) (Z : Zb mg) (c_law_draw : Cal P w K mg base 1 "_law_draw" (spDraw K) []) (c_law_machine : Cal P w K mg base 4 "_law_machine" (spLawMach K) [])
    (c_Machine_init : Mak P w K mg base 4 "Machine" CM (spMachine K CM) []) (c_law_steps : Cal P w K mg base 1 "_law_steps" (spSteps K) []) (c_law_any : Cal P w K mg base 1 "_law_any" spAny []) (c_law_done : Cal P w K mg base 2 "_law_done" (spDone K) [])
    (c_law_then : Cal P w K mg base 1 "_law_then" (spThen K) []) (D_agreeing : CalD P w K mg base 7 "agreeing" s_agreeing ["machine", "one", "other"] (spAgreeing K CM)) (c_has : Cal P w K mg base 6 "has" (spHas K) []) (c_law_power : Cal P w K mg base 1 "_law_power" (spRaised K) [])
    (c_law_close : Cal P w K mg base 2 "_law_close" (spClose K) []) (c_closing : Cal P w K mg base 4 "closing" (spClosing K) []) (c_law_follows_right : Cal P w K mg base 8 "_law_follows_right" (spFollows K CM) [])
    (c_law_let : Cal P w K mg base 8 "_law_let" (spLet K CM CB) []) (c_Bench_init : Mak P w K mg base 1 "Bench" CB (spBench K CM CB) []) : CalD P w K mg base 9 "law" s_law ["_law_script"] (spLaw K) := by
  have c_agreeing := D_agreeing.kw kb_agreeing rv3_rel rv3_len
  refine cald_of d sc_law (fun vs H Q E h => by obtain ⟨a, ns, rfl, _⟩ := h; rfl) fun vs0 H Q E h f0 cdv A outer s0 E' hr => ?_
  obtain ⟨a, ns, rfl, ha, hnl, q⟩ := h
  refine ⟨_, (pss_cons (ps_set (i := 1) sc_law.nd rfl (Or.inr rfl) (pe_c c_law_draw hr (by decide) (by rfl) (pa_cons (pv 0) (pa_cons pe_int pa_nil))))
      (pss_cons (ps_set (i := 2) sc_law.nd rfl (Or.inr rfl) (pe_c c_law_machine hr (by decide) (by rfl) (pa_cons (pv 1) (pa_cons pe_int pa_nil))))
      (pss_cons (ps_par3 (i := 3) (j := 4) (l := 5) (by rfl) sc_law.nd rfl rfl rfl (by decide) (by decide) (by decide) rfl rfl rfl (pa_cons (pe_mk c_Machine_init hr (by decide) (by rfl) (pa_cons (pe_callB (call_lenK K) (by rfl) Z.len (by decide +kernel) (pa_cons (pv 2) pa_nil)) (pa_cons (pe_c c_law_steps hr (by decide) (by rfl) (pa_cons (pv 2) pa_nil)) pa_nil))) (pa_cons (pe_tup (pa_cons pe_int pa_nil)) (pa_cons (pe_tup (pa_cons (pe_op on_sub (pe_callB (call_lenK K) (by rfl) Z.len (by decide +kernel) (pa_cons (pv 2) pa_nil)) pe_int) pa_nil)) pa_nil))) (by rfl))
      (pss_cut (ps_if (pt_cmpR on_eq (pe_c c_law_any hr (by decide) (by rfl) (pa_cons (pv 1) (pa_cons pe_int pa_nil))) pe_int (nomark _))
        (pss_cons (ps_set (i := 4) sc_law.nd rfl (Or.inl rfl) (pe_callTy (call_tupK K) (by rfl) Z.tuple_ (by decide +kernel) (pa_cons (pe_lc (own := [("_law_turn", 6)]) rfl sc_law.nd (pi_range1 (by rfl) Z.range (pa_cons (pe_c c_law_any hr (by decide) (by rfl) (pa_cons (pv 1) (pa_cons pe_int pa_nil))) pa_nil)) (blkOk_by (own := [("_law_turn", 6)]) (N := N_law) (sc := fnScope s_law) (by decide +kernel)) (fun _ _ _ _ _ => (pg_name (i := 6) sc_law.nd rfl (Or.inl rfl))) (fun _ _ _ _ _ => pts_nil) (fun _ _ _ _ _ => (pe_c c_law_any hr (by decide) (by rfl) (pa_cons (pv 1) (pa_cons (pe_callB (call_lenK K) (by rfl) Z.len (by decide +kernel) (pa_cons (pv 2) pa_nil)) pa_nil))))) pa_nil)))
        (pss_one (ps_set (i := 5) sc_law.nd rfl (Or.inl rfl) (pe_callTy (call_tupK K) (by rfl) Z.tuple_ (by decide +kernel) (pa_cons (pe_lc (own := [("_law_turn", 6)]) rfl sc_law.nd (pi_range1 (by rfl) Z.range (pa_cons (pe_c c_law_any hr (by decide) (by rfl) (pa_cons (pv 1) (pa_cons pe_int pa_nil))) pa_nil)) (blkOk_by (own := [("_law_turn", 6)]) (N := N_law) (sc := fnScope s_law) (by decide +kernel)) (fun _ _ _ _ _ => (pg_name (i := 6) sc_law.nd rfl (Or.inl rfl))) (fun _ _ _ _ _ => pts_nil) (fun _ _ _ _ _ => (pe_c c_law_any hr (by decide) (by rfl) (pa_cons (pv 1) (pa_cons (pe_callB (call_lenK K) (by rfl) Z.len (by decide +kernel) (pa_cons (pv 2) pa_nil)) pa_nil))))) pa_nil)))))
        pss_nil)
      (pss_cons (ps_par (i := 7) (j := 8) (by rfl) sc_law.nd rfl rfl (by decide) rfl rfl (pa_cons (pe_c c_law_done hr (by decide) (by rfl) (pa_cons (pv 2) (pa_cons (pv 4) pa_nil))) (pa_cons (pe_c c_law_done hr (by decide) (by rfl) (pa_cons (pv 2) (pa_cons (pv 5) pa_nil))) pa_nil)) (by rfl))
      (pss_cons (ps_asg (pe_tup (pa_cons (pe_lst pa_nil) (pa_cons (pe_lst (pa_cons (pe_callTy (call_tupK K) (by rfl) Z.tuple_ (by decide +kernel) (pa_cons (pe_listRg rfl (by rfl) Z.list_ (prg_1 rfl Z.range (pe_callB (call_lenK K) (by rfl) Z.len (by decide +kernel) (pa_cons (pv 7) pa_nil)))) pa_nil)) (pa_cons (pe_callTy (call_tupK K) (by rfl) Z.tuple_ (by decide +kernel) (pa_cons (pe_listRg rfl (by rfl) Z.list_ (prg_1 rfl Z.range (pe_callB (call_lenK K) (by rfl) Z.len (by decide +kernel) (pa_cons (pv 7) pa_nil)))) pa_nil)) pa_nil))) pa_nil))) (pg_tupK K rfl 2 rfl (pgs_cons (pg_name (i := 9) sc_law.nd rfl (Or.inr rfl)) (pgs_cons (pg_name (i := 10) sc_law.nd rfl (Or.inl rfl)) pgs_nil))))
      (pss_cons (ps_for PassesOwn.never rfl (pi_range1 (by rfl) Z.range (pa_cons pe_int pa_nil)) (pg_name (i := 11) sc_law.nd rfl (Or.inl rfl))
        (pss_cons (ps_if (pt_cmpR (op_eqK K rfl hr.units) (pe_ix (ix_listK K) (pv 10) pe_int (fun _ _ => rfl)) (pe_ix (ix_listK K) (pv 10) pe_int (fun _ _ => rfl)) (nomark _))
          (pss_one (ps_expr (pe_bm PySem.F.plainAttrs_list PySem.F.slot_list_append PySem.F.type_list_append mt_append (pv 9) (pa_cons (pv 11) pa_nil))))
          pss_nil)
        (pss_one (ps_set (i := 10) sc_law.nd rfl (Or.inl rfl) (pe_lst (pa_cons (pe_c c_law_then hr (by decide) (by rfl) (pa_cons (pe_ix (ix_listK K) (pv 10) pe_int (fun _ _ => rfl)) (pa_cons (pv 7) pa_nil))) (pa_cons (pe_c c_law_then hr (by decide) (by rfl) (pa_cons (pe_ix (ix_listK K) (pv 10) pe_int (fun _ _ => rfl)) (pa_cons (pv 8) pa_nil))) pa_nil)))))))
      (pss_cons (ps_set (i := 12) sc_law.nd rfl (Or.inr rfl) (pe_ck c_agreeing hr (by decide) (by rfl) (pk_cons (pv 5) (pk_cons (pe_callTy (call_lstK K) (by rfl) Z.list_ (by decide +kernel) (pa_cons (pv 4) pa_nil)) (pk_cons (pv 3) pk_nil)))))
      (pss_cons (ps_set (i := 13) sc_law.nd rfl (Or.inl rfl) (pe_op on_sub (pe_op on_sub (pe_op op_pow pe_int pe_int) pe_int) (pe_c c_law_any hr (by decide) (by rfl) (pa_cons (pv 1) (pa_cons (pe_op op_pow pe_int pe_int) pa_nil)))))
      (pss_cons (ps_if (pt_cmpR (op_neK K rfl hr.units) (pe_lc (own := [("_law_count", 11)]) rfl sc_law.nd (pi_range1 (by rfl) Z.range (pa_cons pe_int pa_nil)) (blkOk_by (own := [("_law_count", 11)]) (N := N_law) (sc := fnScope s_law) (by decide +kernel)) (fun _ _ _ _ _ => (pg_name (i := 11) sc_law.nd rfl (Or.inl rfl))) (fun _ _ _ _ _ => (pts_one (pt_val (pe_c c_has hr (by decide) (by rfl) (pa_cons (pv 12) (pa_cons (pv 11) pa_nil)))))) (fun _ _ _ _ _ => (pv 11))) (pv 9) (nomark _))
        (pss_one (ps_ret pe_bl))
        pss_nil)
      (pss_cons (ps_if (pt_cmpR op_ne (pe_c c_has hr (by decide) (by rfl) (pa_cons (pv 12) (pa_cons (pv 13) pa_nil))) (pe_cmpR (op_eqK K rfl hr.units) (pe_c c_law_power hr (by decide) (by rfl) (pa_cons (pv 7) (pa_cons (pv 13) pa_nil))) (pe_c c_law_power hr (by decide) (by rfl) (pa_cons (pv 8) (pa_cons (pv 13) pa_nil))) (nomark _)) (nomark _))
        (pss_one (ps_ret pe_bl))
        pss_nil)
      (pss_cons (ps_set (i := 14) sc_law.nd rfl (Or.inl rfl) (pe_slice (sl_listK K) (pe_lc (own := [("_law_count", 11)]) rfl sc_law.nd (pi_listK K rfl (pv 9)) (blkOk_by (own := [("_law_count", 11)]) (N := N_law) (sc := fnScope s_law) (by decide +kernel)) (fun _ _ _ _ _ => (pg_name (i := 11) sc_law.nd rfl (Or.inl rfl))) (fun _ _ _ _ _ => (pts_one (PW.pt (pw_and (pt_chain on_lt on_lt pe_int (pv 11) pe_int) (pw_and1 (pt_cmpR on_eq (pe_c c_law_any hr (by decide) (by rfl) (pa_cons (pv 1) (pa_cons pe_int pa_nil))) pe_int (nomark _))))))) (fun _ _ _ _ _ => (pv 11))) po_none (po_some pe_int)))
      (pss_cut (ps_if (pt_cmpR on_eq (pe_c c_law_any hr (by decide) (by rfl) (pa_cons (pv 1) (pa_cons pe_int pa_nil))) pe_int (nomark _))
        (pss_one (ps_setLc (i := 14) (own := [("_law_turn", 6)]) rfl sc_law.nd rfl rfl (sw_true rfl rfl rfl (by decide +kernel)) (pi_range1 (by rfl) Z.range (pa_cons (pe_c c_law_any hr (by decide) (by rfl) (pa_cons (pv 1) (pa_cons pe_int pa_nil))) pa_nil)) (blkOk_by (own := [("_law_turn", 6)]) (N := N_law) (sc := fnScope s_law) (by decide +kernel)) (fun _ _ _ _ _ => (pg_name (i := 6) sc_law.nd rfl (Or.inl rfl))) (fun _ _ _ _ _ => pts_nil) (fun _ _ _ _ _ => (pe_op on_add pe_int (pe_c c_law_any hr (by decide) (by rfl) (pa_cons (pv 1) (pa_cons pe_int pa_nil)))))))
        pss_nil)
      (pss_cons (ps_set (i := 15) sc_law.nd rfl (Or.inl rfl) (pe_c c_law_close hr (by decide) (by rfl) (pa_cons (pv 14) (pa_cons pe_int pa_nil))))
      (pss_cons (ps_set (i := 16) sc_law.nd rfl (Or.inl rfl) (pe_c c_closing hr (by decide) (by rfl) (pa_cons (pv 14) pa_nil)))
      (pss_cons (ps_for PassesOwn.never rfl (pi_range1 (by rfl) Z.range (pa_cons pe_int pa_nil)) (pg_name (i := 11) sc_law.nd rfl (Or.inl rfl))
        (pss_one (ps_if (pt_cmpR op_ne (pe_c c_has hr (by decide) (by rfl) (pa_cons (pv 16) (pa_cons (pv 11) pa_nil))) (pe_cmpR (op_inK K) (pv 11) (pv 15) (by rfl)) (nomark _))
          (pss_one (ps_ret pe_bl))
          pss_nil)))
      (pss_cut (ps_if (PW.pt (pw_and (pt_cmpR (op_eqK K rfl hr.units) (pe_lc (own := [("_law_count", 11)]) rfl sc_law.nd (pi_listK K rfl (pv 14)) (blkOk_by (own := [("_law_count", 11)]) (N := N_law) (sc := fnScope s_law) (by decide +kernel)) (fun _ _ _ _ _ => (pg_name (i := 11) sc_law.nd rfl (Or.inl rfl))) (fun _ _ _ _ _ => (pts_one (pt_cmpR (op_notInK K) (pv 11) (pv 9) (by rfl)))) (fun _ _ _ _ _ => (pv 11))) (pe_lst pa_nil) (nomark _)) (pw_and1 (pt_cmpR (op_neK K rfl hr.units) (pe_lc (own := [("_law_count", 11)]) rfl sc_law.nd (pi_listK K rfl (pv 15)) (blkOk_by (own := [("_law_count", 11)]) (N := N_law) (sc := fnScope s_law) (by decide +kernel)) (fun _ _ _ _ _ => (pg_name (i := 11) sc_law.nd rfl (Or.inl rfl))) (fun _ _ _ _ _ => (pts_one (pt_cmpR (op_notInK K) (pv 11) (pv 9) (by rfl)))) (fun _ _ _ _ _ => (pv 11))) (pe_lst pa_nil) (nomark _)))))
        (pss_one (ps_ret pe_bl))
        pss_nil)
      (pss_cons (ps_for PassesOwn.never rfl (pi_range1 (by rfl) Z.range (pa_cons pe_int pa_nil)) (pg_name (i := 6) sc_law.nd rfl (Or.inl rfl))
        (pss_one (ps_if (pt_not (pt_val (pe_c c_law_follows_right hr (by decide) (by rfl) (pa_cons (pv 14) (pa_cons (pe_c c_law_any hr (by decide) (by rfl) (pa_cons (pv 1) (pa_cons pe_int pa_nil))) (pa_cons (pv 15) pa_nil))))))
          (pss_one (ps_ret pe_bl))
          pss_nil)))
      (pss_cons (ps_set (i := 11) sc_law.nd rfl (Or.inl rfl) (pe_c c_law_any hr (by decide) (by rfl) (pa_cons (pv 1) (pa_cons pe_int pa_nil))))
      (pss_one (ps_ret (pe_cmpR op_eq (pe_c c_law_let hr (by decide) (by rfl) (pa_cons (pe_mk c_Bench_init hr (by decide) (by rfl) (pa_cons (pv 3) pa_nil)) (pa_cons (pv 11) (pa_cons (pv 4) (pa_cons (pv 5) pa_nil))))) (pe_cmpR (op_inK K) (pv 11) (pv 9) (by rfl)) (nomark _))))))))))))))))))))))), ?_⟩
  -- the machine
  refine ⟨_, rfl, _, _, rfl, a, ns, 51, rfl, rfl, ha, by omega, fun d c H1 e1 hD1 => ?_⟩
  refine ⟨_, rfl, _, _, rfl, d, c, rfl, rfl, hD1, fun l vs cs N H2 e2 hD2 hln hl2 ht2 hC c1 c20 N1 N16 => ?_⟩
  have fl := hD1.fresh hln
  have hvl : vs.length = cs.length := ht2.1
  have hw : MW vs.length (tr cs N) := by rw [hvl]; exact tr_mw hC N1 (by omega) c1 (by omega)
  refine ⟨_, rfl, l, _, rfl, .inl (SqL.of hl2), _, rfl, _, rfl, l, vs, cs, N, rfl, hl2, ht2, hC, c1, by omega, by omega, fun p2 vs2 H3 e3 hp2 hs2 mx dx nx nd _ => ?_⟩
  refine ⟨_, _, _, rfl, mx, p2, dx, vs.length, vs2, tr cs N, rfl, rfl, rfl, upd_same, ex_l (mk_ex nx nd) (SqL.of hp2), hs2.ex (mk_ex nx nd), hw, fun H4 b4 hM4 => ⟨rfl, ?_⟩⟩
  have e34 : Ex H3 H4 := exB_ex nx ((exB_of (mk_ex nx nd)).trans b4)
  have e24 := e3.trans e34
  clear b4 nx nd
  refine ⟨by show 1 ≤ sizeLine; decide, fun o1 ho1 => ?_⟩
  have x5 := ex_new (o := .tup [.int 0]) ho1
  have ho15 : SqT K (upd H4 o1 (.tup [.int 0])) o1 (nv [0]) := SqT.of upd_same
  generalize (upd H4 o1 (.tup [.int 0])) = H5 at x5 ho15 ⊢
  have e25 := e24.trans x5
  refine ⟨_, rfl, l, _, rfl, .inl (SqL.of (e25 _ _ hl2)), vs.length, 1, rfl, rfl, by omega, by show 1 ≤ sizeLine; decide, fun o2 ho2 => ⟨_, _, _, rfl, ?_⟩⟩
  have x6 := ex_new (o := .tup [.int (vs.length - 1 : Nat)]) ho2
  have ho26 : SqT K (upd H5 o2 (.tup [.int (vs.length - 1 : Nat)])) o2 (nv [vs.length - 1]) := SqT.of upd_same
  have ho16 := ex_t x6 ho15
  generalize (upd H5 o2 (.tup [.int (vs.length - 1 : Nat)])) = H6 at x6 ho26 ho16 ⊢
  have e26 := e25.trans x6
  have A6 : PA K CM d c l mx o1 o2 vs cs N vs.length [0] [vs.length - 1] H6 := ⟨hD2.ex e26, e26 _ _ hl2, ht2.ex e26, hM4.ex (x5.trans x6), ho16, ho26⟩
  -- the rows
  refine ⟨fun σ H' => ∃ o1 o2 row1 row2 u6, σ = [some (.ref a), some (.ref d), some (.ref l), some (.ref mx), some (.ref o1), some (.ref o2), u6, none, none, none, none, none, none, none, none, none, none] ∧ PA K CM d c l mx o1 o2 vs cs N vs.length row1 row2 H' ∧
    (∀ k ∈ row1, k < vs.length) ∧ (∀ k ∈ row2, k < vs.length) ∧ row1.length ≤ 1000 ∧ row2.length ≤ 1000, ?_, ?_⟩
  · refine ⟨_, rfl, _, _, rfl, d, c, 3, rfl, rfl, by decide, by decide, A6.D, fun v H7 hv e7 hD7 => ⟨v, 0, rfl, rfl, _, rfl, ?_⟩⟩
    have hl7 := e7 _ _ fl.1 fl.2 A6.lv
    have ht7 := A6.tv.exD A6.D e7
    have hM7 := A6.M.exD A6.D e7
    by_cases hv0 : v = 0
    · rw [decide_eq_true hv0]
      refine r_row hD7 hl7 fl (by omega) (by omega) fun q1 f1 H8 e8 hD8 hq1 hf1 hl1 => ?_
      have hl8 := e8 _ _ fl.1 fl.2 hl7
      refine r_row hD8 hl8 fl (by omega) (by omega) fun q2 f2 H9 e9 hD9 hq2 hf2 hl2' => ?_
      exact ⟨q1, q2, f1, f2, _, rfl, ⟨hD9, e9 _ _ fl.1 fl.2 hl8, (ht7.exD hD7 e8).exD hD8 e9, (hM7.exD hD7 e8).exD hD8 e9, exD_t hD8 e9 hq1, hq2⟩, hf1, hf2, by omega, by omega⟩
    · rw [decide_eq_false hv0]
      exact ⟨o1, o2, [0], [vs.length - 1], _, rfl, ⟨hD7, hl7, ht7, hM7, exD_t A6.D e7 A6.r1, exD_t A6.D e7 A6.r2⟩, fun k hk => by rw [List.mem_singleton.mp hk]; omega, fun k hk => by rw [List.mem_singleton.mp hk]; omega, by show 1 ≤ 1000; decide, by show 1 ≤ 1000; decide⟩
  clear A6 e26 x6 ho26 ho16 e25 x5 ho15 hM4
  rintro σ H7 ⟨o1, o2, row1, row2, u6, rfl, A7, hr1, hr2, hr1l, hr2l⟩
  have tl := tr_len cs N
  have two := chOf_two hw hr1 hr2
  have len1 := (chOf_ok hw row1 hr1).1
  rw [tl] at len1
  generalize hf : chOf (tr cs N) row1 = f at two len1
  generalize hg : chOf (tr cs N) row2 = g at two
  have len2 : g.length = N := by rw [← two.len, len1]
  refine ⟨_, rfl, _, rfl, _, _, rfl, l, o1, vs, cs, N, row1, rfl, rfl, A7.lv, A7.tv, hC, c1, by omega, by omega, A7.r1, by rw [← hvl]; exact hr1, fun p1 H8 e8 hp1 => ?_⟩
  rw [hf] at hp1
  have A8 := A7.ex e8
  refine ⟨_, rfl, _, rfl, _, _, rfl, l, o2, vs, cs, N, row2, rfl, rfl, A8.lv, A8.tv, hC, c1, by omega, by omega, A8.r2, by rw [← hvl]; exact hr2, fun p2' H9 e9 hp2' => ⟨_, _, rfl, ?_⟩⟩
  rw [hg] at hp2'
  have A9 := A8.ex e9
  have hp19 := ex_t e9 hp1
  -- good, ends
  refine ⟨Nat.zero_le _, fun lg hlg => ?_⟩
  have x10 := ex_new (o := .lst []) hlg
  have nlg := A9.D.fresh hlg
  refine ⟨_, rfl, p1, _, rfl, .inr (ex_t x10 hp19), N, by rw [nv_len, len1], .of_le (by omega) (by omega) (by omega) (by omega), fun r1 hr1' => ⟨r1, nv (List.range N), rfl, .inl ⟨SqL.of (by rw [upd_same, rgV_nat]), fun q1 hq1 => ?_⟩⟩⟩
  have x11 := (ex_new (o := .lst (rgV 0 (N : Nat))) hr1').trans (ex_new (o := .tup (nv (List.range N))) hq1)
  have hq1' : SqT K (upd (upd (upd H9 lg (.lst [])) r1 (.lst (rgV 0 (N : Nat)))) q1 (.tup (nv (List.range N)))) q1 (nv (List.range N)) := SqT.of upd_same
  have hlg11 := x11 lg (.lst []) upd_same
  have x911 := x10.trans x11
  generalize (upd (upd (upd H9 lg (.lst [])) r1 (.lst (rgV 0 (N : Nat)))) q1 (.tup (nv (List.range N)))) = H11 at x911 hq1' hlg11 ⊢
  refine ⟨_, rfl, p1, _, rfl, .inr (ex_t x911 hp19), N, by rw [nv_len, len1], .of_le (by omega) (by omega) (by omega) (by omega), fun r2 hr2' => ⟨r2, nv (List.range N), rfl, .inl ⟨SqL.of (by rw [upd_same, rgV_nat]), fun q2 hq2 => ?_⟩⟩⟩
  have x12 := (ex_new (o := .lst (rgV 0 (N : Nat))) hr2').trans (ex_new (o := .tup (nv (List.range N))) hq2)
  have hq2' : SqT K (upd (upd H11 r2 (.lst (rgV 0 (N : Nat)))) q2 (.tup (nv (List.range N)))) q2 (nv (List.range N)) := SqT.of upd_same
  have hq12 := ex_t x12 hq1'
  have hlg12 := x12 _ _ hlg11
  have x912 := x911.trans x12
  generalize (upd (upd H11 r2 (.lst (rgV 0 (N : Nat)))) q2 (.tup (nv (List.range N)))) = H12 at x912 hq2' hq12 hlg12 ⊢
  refine ⟨by show 2 ≤ sizeLine; decide, fun le hle => ⟨by show 2 ≤ sizeLine; decide, fun tp htp => ⟨tp, _, rfl, SqT.of upd_same, rfl, _, _, rfl, _, _, rfl, rfl, ?_⟩⟩⟩
  have nle : le ≠ lg := fun z => by rw [z, hlg12] at hle; cases hle
  have x13 := ex_new (o := .lst [.ref q1, .ref q2]) hle
  have x14 := ex_new (o := .tup [.ref lg, .ref le]) htp
  have hle14 := x14 _ _ (upd_same : (upd H12 le (.lst [.ref q1, .ref q2])) le = _)
  have hlg14 := x14 _ _ (x13 _ _ hlg12)
  have hq114 := ex_t x14 (ex_t x13 hq12)
  have hq214 := ex_t x14 (ex_t x13 hq2')
  have x914 := x912.trans (x13.trans x14)
  generalize (upd (upd H12 le (.lst [.ref q1, .ref q2])) tp (.tup [.ref lg, .ref le])) = H14 at x914 hle14 hlg14 hq114 hq214 ⊢
  clear x13 x14 x911 x912 x10 x11 x12 hle htp hq1 hq2 hr1' hr2' hq12 hq1' hq2' hlg11 hlg12
  -- the powers
  refine ⟨41, rfl, by decide, by decide, for_rng (n := 41) (fun i σ H' => ∃ le q1 q2 u11, σ = [some (.ref a), some (.ref d), some (.ref l), some (.ref mx), some (.ref o1), some (.ref o2), u6, some (.ref p1), some (.ref p2'), some (.ref lg), some (.ref le), u11, none, none, none, none, none] ∧ Ex H9 H' ∧
    H' lg = some (.lst (nv ((List.range i).filter fun c => decide (Ag f g c)))) ∧ H' le = some (.lst [.ref q1, .ref q2]) ∧ SqT K H' q1 (nv (pw f i)) ∧ SqT K H' q2 (nv (pw g i)) ∧ le ≠ lg)
    ⟨le, q1, q2, none, rfl, x914, hlg14, hle14, by rw [pw_zero, len1]; exact hq114, by rw [pw_zero, len2]; exact hq214, nle⟩ ?_ ?_⟩
  · rintro i σ H15 hi ⟨le, q1, q2, u11, rfl, e15, g15, le15, hq1, hq2, nle⟩
    have rest : ∀ (xs : List Nat) (H16 : Hp) (R : VK) (B C' : L2.St → Hp → Prop), Ex H9 H16 → H16 lg = some (.lst (nv xs)) → H16 le = some (.lst [.ref q1, .ref q2]) → SqT K H16 q1 (nv (pw f i)) → SqT K H16 q2 (nv (pw g i)) → xs = (List.range (i + 1)).filter (fun c => decide (Ag f g c)) →
        tAsg (tLst (tCons (tCall (spThen K) [] C8.E0 (tCons (tOp (rIxL K) (tVar 10) (tC (.int 0))) (tCons (tVar 7) tNil))) (tCons (tCall (spThen K) [] C8.E0 (tCons (tOp (rIxL K) (tVar 10) (tC (.int 1))) (tCons (tVar 8) tNil))) tNil))) (gName 10)
          { nx := fun σ H' => ∃ le q1 q2 u11, σ = [some (.ref a), some (.ref d), some (.ref l), some (.ref mx), some (.ref o1), some (.ref o2), u6, some (.ref p1), some (.ref p2'), some (.ref lg), some (.ref le), u11, none, none, none, none, none] ∧ Ex H9 H' ∧
            H' lg = some (.lst (nv ((List.range (i + 1)).filter fun c => decide (Ag f g c)))) ∧ H' le = some (.lst [.ref q1, .ref q2]) ∧ SqT K H' q1 (nv (pw f (i + 1))) ∧ SqT K H' q2 (nv (pw g (i + 1))) ∧ le ≠ lg, rt := R, bk := B, ct := C' }
          [some (.ref a), some (.ref d), some (.ref l), some (.ref mx), some (.ref o1), some (.ref o2), u6, some (.ref p1), some (.ref p2'), some (.ref lg), some (.ref le), some (.int (i : Nat)), none, none, none, none, none] H16 := by
      intro xs H16 R B C' e16 g16 le16 h1 h2 hx
      refine ⟨_, rfl, le, _, 0, _, rfl, rfl, SqL.of le16, atI_nat (j := 0) rfl, _, rfl, _, _, rfl, q1, p1, _, _, rfl, rfl, h1, ex_t e16 hp19, by rw [pw_len]; omega, fun s hs => by have := pw_chg two.cf i s hs; rwa [pw_len] at this, fun r1 H17 e17 hr1 => ?_⟩
      refine ⟨_, rfl, le, _, 1, _, rfl, rfl, SqL.of (e17 _ _ le16), atI_nat (j := 1) rfl, _, rfl, _, _, rfl, q2, p2', _, _, rfl, rfl, ex_t e17 h2, ex_t (e16.trans e17) hp2', by rw [pw_len]; omega, fun s hs => by have := pw_chg two.cg i s hs; rwa [pw_len] at this, fun r2 H18 e18 hr2 => ?_⟩
      refine ⟨by show 2 ≤ sizeLine; decide, fun l2 hl2 => ⟨l2, r1, r2, _, rfl, ((e16.trans e17).trans e18).trans (ex_new hl2), ?_, upd_same, ?_, ?_, fun z => ?_⟩⟩
      · rw [← hx]
        exact ex_new hl2 _ _ (e18 _ _ (e17 _ _ g16))
      · rw [← pw_succ two.cf]
        exact ex_t (ex_new hl2) (ex_t e18 hr1)
      · rw [← pw_succ two.cg]
        exact ex_t (ex_new hl2) hr2
      · rw [z, e18 _ _ (e17 _ _ g16)] at hl2
        cases hl2
    refine ⟨_, rfl, le, _, 0, _, rfl, rfl, SqL.of le15, atI_nat (j := 0) rfl, _, rfl, le, _, 1, _, rfl, rfl, SqL.of le15, atI_nat (j := 1) rfl, rdEqT hq1 hq2 ⟨_, rfl, ?_⟩⟩
    have hfl := List.length_filter_le (fun c => decide (Ag f g c)) (List.range i)
    rw [List.length_range] at hfl
    by_cases hag : pw f i = pw g i
    · rw [decide_eq_true hag]
      refine ⟨_, rfl, .inl ⟨rfl, _, SqL.of g15⟩, _, rfl, lg, _, _, rfl, rfl, g15, sz_lt (by rw [nv_len]; omega), ?_⟩
      refine rest ((List.range i).filter (fun c => decide (Ag f g c)) ++ [i]) _ _ _ _ (ex_mut e15 hlg) (by rw [upd_same, nv_snoc]) (by rw [upd_ne nle]; exact le15) (tup_upd g15 hq1) (tup_upd g15 hq2) ?_
      rw [List.range_succ, List.filter_append, List.filter_cons, if_pos (show decide (Ag f g i) = true from decide_eq_true hag)]
      rfl
    · rw [decide_eq_false hag]
      refine rest ((List.range i).filter (fun c => decide (Ag f g c))) H15 _ _ _ e15 g15 le15 hq1 hq2 ?_
      rw [List.range_succ, List.filter_append, List.filter_cons, if_neg (show ¬ decide (Ag f g i) = true by rw [decide_eq_true_iff]; exact hag), List.filter_nil, List.append_nil]
  clear x914 hlg14 hle14 hq114 hq214 nle
  rintro σ H15 ⟨le, q1, q2, u11, rfl, e15, g15, _, _, _, _⟩
  have hgm : ∀ k, k ∈ (List.range 41).filter (fun c => decide (Ag f g c)) ↔ k < 41 ∧ Ag f g k := fun k => below_mem (A := Ag f g) (n := 41)
  have hgl : ((List.range 41).filter fun c => decide (Ag f g c)).length ≤ 41 := below_len (A := Ag f g) 41
  generalize hgoods : (List.range 41).filter (fun c => decide (Ag f g c)) = goods at g15 hgm hgl
  have B15 : PB K CM d c mx o1 o2 lg vs.length (tr cs N) row1 row2 goods H15 := ⟨A9.D.ex e15, A9.M.ex e15, ex_t e15 A9.r1, ex_t e15 A9.r2, g15, nlg⟩
  have hp115 := ex_t e15 hp19
  have hp215 := ex_t e15 hp2'
  -- told
  refine ⟨_, rfl, _, rfl, o1, _, rfl, .inr B15.r1, fun lo hlo => ?_⟩
  have x16 := ex_new (o := .lst (nv row1)) hlo
  have B16 := B15.ex x16
  have hlo16 : SqL K (upd H15 lo (.lst (nv row1))) lo (nv row1) := SqL.of upd_same
  have hp116 := ex_t x16 hp115
  have hp216 := ex_t x16 hp215
  generalize (upd H15 lo (.lst (nv row1))) = H16 at x16 B16 hlo16 hp116 hp216 ⊢
  refine ⟨_, rfl, _, _, _, rfl, mx, lo, o2, vs.length, tr cs N, row1, row2, rfl, rfl, rfl, B16.M, hw, by rw [tl]; exact N16, ⟨.inl hlo16, hr1, hr1l⟩, ⟨.inr B16.r2, hr2, hr2l⟩, fun pt rs ee H17 e17 hFA hFO hwi => ?_⟩
  rw [hf, hg] at hwi
  have B17 := B16.ex e17
  -- great
  refine ⟨10, 30, rfl, rfl, ⟨by decide, by decide, by decide⟩, 1000000000000000000000000000000, 1, by rfl, rfl, by decide, _, rfl, 10, 6, rfl, rfl, ⟨by decide, by decide, by decide⟩, _, _, rfl, d, c, 1000000, rfl, by rfl, by decide, by decide, B17.D, fun gv H18 hgv e18 hD18 => ?_⟩
  have B18 := B17.exD e18 hD18
  have hp118 := exD_t B17.D e18 (ex_t e17 hp116)
  have hp218 := exD_t B17.D e18 (ex_t e17 hp216)
  have hFA18 : FallAt K H18 pt rs ee := by
    obtain ⟨q, vs', h1, h2, h3⟩ := hFA
    exact ⟨q, vs', exD_t B17.D e18 h1, exD_t B17.D e18 h2, h3.exD B17.D e18⟩
  refine ⟨1000000000000000000000000000000 - 1, gv, rfl, rfl, by omega, ?_⟩
  dsimp only
  generalize (1000000000000000000000000000000 - 1 - gv) = G
  -- the told set up to 40
  refine ⟨41, rfl, by decide, by decide, fun D hDn => cmR (n := 41) (fun i acc _ => acc = nv ((List.range i).filter fun c => within rs ee c)) (steady_val _) hDn rfl (by decide) ?_ ?_⟩
  · intro i hi acc H19 QF QT e19 hd p kF kT
    refine ⟨rfl, _, rfl, _, rfl, _, _, rfl, pt, rs, ee, i, rfl, rfl, hFA18.ex e19, hFO, fun H20 e20 => ⟨_, rfl, ?_⟩⟩
    have hri : (List.range (i + 1)).filter (fun c => within rs ee c) = (List.range i).filter (fun c => within rs ee c) ++ if within rs ee i = true then [i] else [] := by
      rw [List.range_succ, List.filter_append, List.filter_cons]
      split <;> rfl
    cases hwin : within rs ee i with
    | true =>
      refine ⟨_, rfl, kT _ _ e20 ?_⟩
      show acc ++ [V.int (i : Nat)] = nv ((List.range (i + 1)).filter fun c => within rs ee c)
      rw [show acc = _ from p, hri, hwin, if_pos rfl, ← nv_snoc]
    | false =>
      refine kF _ e20 ?_
      show acc = nv ((List.range (i + 1)).filter fun c => within rs ee c)
      rw [show acc = _ from p, hri, hwin, if_neg Bool.false_ne_true, List.append_nil]
  intro acc H19 e19 hd19 p
  have p' : acc = nv ((List.range 41).filter fun c => within rs ee c) := p
  have hsame : (List.range 41).filter (fun c => within rs ee c) = goods := by
    rw [← hgoods]
    refine List.filter_congr fun k _ => ?_
    have := hwi k
    cases hk : within rs ee k with
    | true => rw [decide_eq_true (this.mp hk)]
    | false => rw [decide_eq_false fun h => Bool.noConfusion (hk.symm.trans (this.mpr h))]
  rw [hsame] at p'
  subst p'
  have B19 := B18.ex e19
  refine ⟨_, rfl, rdNeL (SqL.of hd19) (SqL.of B19.g) ⟨_, rfl, ?_⟩⟩
  rw [decide_eq_true (rfl : goods = goods)]
  -- the great count
  refine ⟨_, rfl, _, rfl, _, _, rfl, pt, rs, ee, G, rfl, rfl, hFA18.ex e19, hFO, fun H20 e20 => ?_⟩
  have e1820 := e19.trans e20
  refine ⟨_, rfl, _, rfl, _, _, rfl, p1, f, G, rfl, rfl, ex_t e1820 hp118, two.cf, by omega, fun w1 H21 e21 hw1 => ?_⟩
  refine ⟨_, rfl, _, rfl, _, _, rfl, p2', g, G, rfl, rfl, ex_t (e1820.trans e21) hp218, two.cg, by omega, fun w2 H22 e22 hw2 => ?_⟩
  refine rdEqT (ex_t e22 hw1) hw2 ⟨rfl, _, rfl, ?_⟩
  have hsame2 : within rs ee G = decide (pw f G = pw g G) := by
    have := hwi G
    cases hk : within rs ee G with
    | true => exact (decide_eq_true (this.mp hk)).symm
    | false => exact (decide_eq_false fun h => Bool.noConfusion (hk.symm.trans (this.mpr h))).symm
  rw [hsame2, decide_eq_true (rfl : V.bl (decide (pw f G = pw g G)) = V.bl (decide (pw f G = pw g G)))]
  have B22 := B19.ex ((e20.trans e21).trans e22)
  -- some counts
  have n22 := B22.n
  refine ⟨_, rfl, lg, rfl, ⟨_, SqL.of B22.g⟩, fun D hDn => ?_⟩
  have fD := B22.D.fresh hDn
  have nDg : lg ≠ D := ne_of_none B22.g hDn
  refine lc_list (xs := nv goods) (fun i H' => ∃ S, ExD d c H22 H' ∧ Deal d c H' ∧ H' D = some (.lst (nv S)) ∧ S.length ≤ i ∧ ∀ x ∈ S, 0 < x ∧ x < 15) ⟨[], exD_of (ex_new hDn), B22.D.ex (ex_new hDn), upd_same, Nat.le_refl _, fun x hx => absurd hx List.not_mem_nil⟩
    (fun i H' _ z => by obtain ⟨_, e, _⟩ := z; exact SqL.of (e _ _ n22.1 n22.2 B22.g)) ?_ ?_
  · rintro i x H23 hi ⟨S, e23, hD23, hd23, hSl, hS⟩
    obtain ⟨n, hn, rfl⟩ := nv_at hi
    have hil := (List.getElem?_eq_some_iff.mp hn).1
    refine ⟨rfl, _, rfl, 0, n, rfl, rfl, _, rfl, ?_⟩
    by_cases h0 : 0 < n
    · rw [decide_eq_true h0]
      refine ⟨n, 15, rfl, rfl, _, rfl, ?_⟩
      by_cases h15 : n < 15
      · rw [decide_eq_true h15]
        refine ⟨_, rfl, _, _, rfl, d, c, 2, rfl, rfl, by decide, by decide, hD23, fun v H24 hv e24 hD24 => ⟨v, 0, rfl, rfl, _, rfl, ?_⟩⟩
        have hd24 := e24 _ _ fD.1 fD.2 hd23
        by_cases hv0 : v = 0
        · rw [decide_eq_true hv0]
          refine ⟨_, rfl, nv S, hd24, sz_lt (by rw [nv_len]; omega), S ++ [n], (e23.trans e24).mut hDn, hD24.upd fD, by rw [upd_same, nv_snoc], by rw [List.length_append, List.length_singleton]; omega, fun x hx => ?_⟩
          rcases List.mem_append.mp hx with h | h
          · exact hS x h
          · rw [List.mem_singleton.mp h]; exact ⟨h0, h15⟩
        · rw [decide_eq_false hv0]
          exact ⟨S, e23.trans e24, hD24, hd24, by omega, hS⟩
      · rw [decide_eq_false h15]
        exact ⟨S, e23, hD23, hd23, by omega, hS⟩
    · rw [decide_eq_false h0]
      exact ⟨_, rfl, S, e23, hD23, hd23, by omega, hS⟩
  rintro H23 ⟨S, e23, hD23, hd23, hSl, hS⟩
  have B23 := B22.exD e23 hD23
  refine ⟨4, rfl, D, _, rfl, SqL.of hd23, fun pk hpk => ?_⟩
  have hcut : cutV (nv S) none (some 4) = nv (S.take 4) := by
    rw [show ((4 : Int)) = ((4 : Nat) : Int) from rfl, cut_to]
    exact List.map_take.symm
  rw [hcut]
  have x24 := ex_new (o := .lst (nv (S.take 4))) hpk
  have hpk24 : (upd H23 pk (.lst (nv (S.take 4)))) pk = some (.lst (nv (S.take 4))) := upd_same
  have npk := B23.D.fresh hpk
  have B24 := B23.ex x24
  generalize (upd H23 pk (.lst (nv (S.take 4)))) = H24 at x24 hpk24 B24 ⊢
  -- .. or others
  refine ⟨fun σ H' => ∃ pk ks u6, σ = [some (.ref a), some (.ref d), some (.ref l), some (.ref mx), some (.ref o1), some (.ref o2), u6, some (.ref p1), some (.ref p2'), some (.ref lg), some (.ref le), u11, some (.ref pt), some (.int (G : Nat)), some (.ref pk), none, none] ∧
    PB K CM d c mx o1 o2 lg vs.length (tr cs N) row1 row2 goods H' ∧ H' pk = some (.lst (nv ks)) ∧ pk ≠ d ∧ pk ≠ c ∧ ks.length ≤ 4 ∧ ∀ x ∈ ks, x ≤ 900, ?_, ?_⟩
  · refine ⟨_, rfl, _, _, rfl, d, c, 3, rfl, rfl, by decide, by decide, B24.D, fun v H25 hv e25 hD25 => ⟨v, 0, rfl, rfl, _, rfl, ?_⟩⟩
    have B25 := B24.exD e25 hD25
    by_cases hv0 : v = 0
    · rw [decide_eq_true hv0]
      refine ⟨_, rfl, _, _, rfl, d, c, 4, rfl, rfl, by decide, by decide, hD25, fun v2 H26 hv2 e26 hD26 => ⟨v2, rfl, by omega, by omega, fun D2 hDn2 => ?_⟩⟩
      have B26 := B25.exD e26 hD26
      have fD2 := hD26.fresh hDn2
      refine lc_rng (n := v2) (fun i H' => ∃ S, ExD d c H26 H' ∧ Deal d c H' ∧ H' D2 = some (.lst (nv S)) ∧ S.length = i ∧ ∀ x ∈ S, x ≤ 900) ⟨[], exD_of (ex_new hDn2), hD26.ex (ex_new hDn2), upd_same, rfl, fun x hx => absurd hx List.not_mem_nil⟩ ?_ ?_
      · rintro i H27 hi ⟨S2, e27, hD27, hd27, hl27, hS27⟩
        refine ⟨rfl, _, rfl, _, _, rfl, d, c, 14, rfl, rfl, by decide, by decide, hD27, fun w0 H28 hw0 e28 hD28 => ⟨1, w0, rfl, rfl, nv S2, e28 _ _ fD2.1 fD2.2 hd27, sz_lt (by rw [nv_len]; omega), ?_⟩⟩
        refine ⟨S2 ++ [1 + w0], (e27.trans e28).mut hDn2, hD28.upd fD2, by rw [upd_same, nv_snoc], by rw [List.length_append, List.length_singleton, hl27], fun x hx => ?_⟩
        rcases List.mem_append.mp hx with h | h
        · exact hS27 x h
        · rw [List.mem_singleton.mp h]; omega
      · rintro H27 ⟨S2, e27, hD27, hd27, hl27, hS27⟩
        exact ⟨D2, S2, _, rfl, B26.exD e27 hD27, hd27, fD2.1, fD2.2, by omega, hS27⟩
    · rw [decide_eq_false hv0]
      exact ⟨pk, S.take 4, _, rfl, B25, e25 _ _ npk.1 npk.2 hpk24, npk.1, npk.2, by rw [List.length_take]; omega, fun x hx => by have := (hS x (List.mem_of_mem_take hx)).2; omega⟩
  clear hpk24 x24 B24 hpk npk hcut
  rintro σ H25 ⟨pk, ks, u6, rfl, B25, hk25, npd, npc, hkl, hks⟩
  -- the closing by trying
  refine ⟨_, rfl, _, _, rfl, pk, ks, 24, rfl, rfl, SqL.of hk25, by decide, fun pc L H26 e26 hpcn hL26 hLl hL => ?_⟩
  have B26 := B25.ex e26
  have hk26 := e26 _ _ hk25
  have npc2 := B25.D.fresh hpcn
  refine ⟨_, rfl, _, rfl, pk, ks, rfl, SqL.of hk26, by omega, hks, fun ps rs2 ee2 H27 e27 hFA2 hFO2 hwi2 => ?_⟩
  have B27 := B26.ex e27
  have hk27 := e27 _ _ hk26
  have hL27 := e27 _ _ hL26
  -- they are the same
  refine ⟨25, rfl, by decide, by decide, for_rng (n := 25) (fun i σ H' => ∃ u11, σ = [some (.ref a), some (.ref d), some (.ref l), some (.ref mx), some (.ref o1), some (.ref o2), u6, some (.ref p1), some (.ref p2'), some (.ref lg), some (.ref le), u11, some (.ref pt), some (.int (G : Nat)), some (.ref pk), some (.ref pc), some (.ref ps)] ∧ Ex H27 H') ⟨_, rfl, Ex.refl _⟩ ?_ ?_⟩
  · rintro i σ H28 hi ⟨u11, rfl, e28⟩
    refine ⟨_, rfl, _, rfl, _, _, rfl, ps, rs2, ee2, i, rfl, rfl, hFA2.ex e28, hFO2, fun H29 e29 => ?_⟩
    have e2829 := e28.trans e29
    refine ⟨_, rfl, _, rfl, pc, _, rfl, .inl (SqL.of (e2829 _ _ hL27)), rfl, flat_nv L, rfl, _, rfl, ?_⟩
    rw [if_neg Bool.false_ne_true, inV_nv]
    have hsame3 : within rs2 ee2 i = decide (i ∈ L) := by
      have h1 := hwi2 i
      have h2 := hL i
      cases hk : within rs2 ee2 i with
      | true => exact (decide_eq_true (h2.mpr ⟨by omega, h1.mp hk⟩)).symm
      | false => exact (decide_eq_false fun h => Bool.noConfusion (hk.symm.trans (h1.mpr (h2.mp h).2))).symm
    rw [hsame3, decide_eq_true (rfl : V.bl (decide (i ∈ L)) = V.bl (decide (i ∈ L)))]
    exact ⟨_, rfl, e2829⟩
  rintro σ H28 ⟨u11, rfl, e28⟩
  have B28 := B27.ex e28
  have hk28 := e28 _ _ hk27
  have hL28 := e28 _ _ hL27
  -- what follows is good
  refine ⟨fun σ H' => σ = [some (.ref a), some (.ref d), some (.ref l), some (.ref mx), some (.ref o1), some (.ref o2), u6, some (.ref p1), some (.ref p2'), some (.ref lg), some (.ref le), u11, some (.ref pt), some (.int (G : Nat)), some (.ref pk), some (.ref pc), some (.ref ps)] ∧ Ex H28 H', ?_, ?_⟩
  · refine ⟨_, rfl, pk, rfl, ⟨_, SqL.of hk28⟩, fun D hDn => cmL (fun i acc _ => acc = nv ((ks.take i).filter fun c => !decide (c ∈ goods))) (steady_val _) hDn rfl (SqL.of hk28) (by rw [nv_len]; omega) ?_ ?_⟩
    · intro i x hi acc H29 QF QT e29 hd p kF kT
      obtain ⟨n, hn, rfl⟩ := nv_at hi
      refine ⟨rfl, _, rfl, _, rfl, lg, _, rfl, .inl (SqL.of (B28.ex e29).g), rfl, flat_nv goods, _, rfl, ?_⟩
      rw [inV_nv]
      by_cases hin : n ∈ goods
      · rw [decide_eq_true hin]
        refine kF _ (Ex.refl _) ?_
        show acc = nv ((ks.take (i + 1)).filter fun c => !decide (c ∈ goods))
        rw [show acc = _ from p, tk_no hn (show (!decide (n ∈ goods)) = false by rw [decide_eq_true hin]; rfl)]
      · rw [decide_eq_false hin]
        refine ⟨_, rfl, kT _ _ (Ex.refl _) ?_⟩
        show acc ++ [V.int (n : Nat)] = nv ((ks.take (i + 1)).filter fun c => !decide (c ∈ goods))
        rw [show acc = _ from p, tk_yes hn (show (!decide (n ∈ goods)) = true by rw [decide_eq_false hin]; rfl), ← nv_snoc]
    intro acc H29 e29 hd29 p
    have p' : acc = nv ((ks.take (nv ks).length).filter fun c => !decide (c ∈ goods)) := p
    rw [nv_len, List.take_length] at p'
    subst p'
    refine ⟨by show 0 ≤ sizeLine; decide, fun n1 hn1 => rdEqL (ys := []) (SqL.of (ex_new hn1 _ _ hd29)) (SqL.of upd_same) ⟨_, rfl, ?_⟩⟩
    have x30 := e29.trans (ex_new (o := .lst []) hn1)
    generalize (upd H29 n1 (.lst [])) = H30 at x30 ⊢
    by_cases hflt : (ks.filter fun c => !decide (c ∈ goods)) = []
    · rw [decide_eq_true hflt]
      have hall : ∀ k ∈ ks, k ∈ goods := fun k hk => by
        apply Classical.byContradiction
        intro hn
        have : k ∈ ks.filter fun c => !decide (c ∈ goods) := List.mem_filter.mpr ⟨hk, by rw [decide_eq_false hn]; rfl⟩
        rw [hflt] at this
        exact List.not_mem_nil this
      have hLg : ∀ k ∈ L, k ∈ goods := fun k hk => by
        obtain ⟨h1, h2⟩ := (hL k).mp hk
        exact (hgm k).mpr ⟨by omega, h2.sub two.closed fun y hy => ((hgm y).mp (hall y hy)).2⟩
      have hL30 := x30 _ _ hL28
      refine ⟨_, rfl, pc, rfl, ⟨_, SqL.of hL30⟩, fun D2 hDn2 => cmL (fun i acc _ => acc = []) (steady_val _) hDn2 rfl (SqL.of hL30) (by rw [nv_len]; omega) ?_ ?_⟩
      · intro i x hi acc H31 QF QT e31 hd p kF kT
        obtain ⟨n, hn, rfl⟩ := nv_at hi
        refine ⟨rfl, _, rfl, _, rfl, lg, _, rfl, .inl (SqL.of ((B28.ex x30).ex e31).g), rfl, flat_nv goods, _, rfl, ?_⟩
        rw [inV_nv, decide_eq_true (hLg n (List.mem_of_getElem? hn))]
        exact kF _ (Ex.refl _) p
      · intro acc H31 e31 hd31 p
        have p' : acc = [] := p
        subst p'
        refine ⟨by show 0 ≤ sizeLine; decide, fun n2 hn2 => rdNeL (xs := []) (ys := []) (SqL.of (ex_new hn2 _ _ hd31)) (SqL.of upd_same) ⟨_, rfl, ?_⟩⟩
        rw [decide_eq_true (rfl : ([] : List Nat) = [])]
        exact ⟨rfl, (x30.trans e31).trans (ex_new hn2)⟩
    · rw [decide_eq_false hflt]
      exact ⟨rfl, x30⟩
  rintro σ H29 ⟨rfl, e29⟩
  have B29 := B28.ex e29
  have hk29 := e29 _ _ hk28
  have hL29 := e29 _ _ hL28
  -- walks and machines
  refine ⟨3, rfl, by decide, by decide, for_rng (n := 3) (fun i σ H' => ∃ u6, σ = [some (.ref a), some (.ref d), some (.ref l), some (.ref mx), some (.ref o1), some (.ref o2), u6, some (.ref p1), some (.ref p2'), some (.ref lg), some (.ref le), u11, some (.ref pt), some (.int (G : Nat)), some (.ref pk), some (.ref pc), some (.ref ps)] ∧ ExD d c H29 H' ∧ Deal d c H') ⟨_, rfl, exD_of (Ex.refl _), B29.D⟩ ?_ ?_⟩
  · rintro i σ H30 hi ⟨u6, rfl, e30, hD30⟩
    refine ⟨_, rfl, _, rfl, _, _, rfl, d, c, 15, rfl, rfl, by decide, by decide, hD30, fun v H31 hv e31 hD31 => ?_⟩
    have e2931 := e30.trans e31
    refine ⟨_, rfl, _, _, _, rfl, pk, pc, ks, L, v, rfl, rfl, rfl, SqL.of (e2931 _ _ npd npc hk29), by omega, SqL.of (e2931 _ _ npc2.1 npc2.2 hL29), by omega, hL, fun H32 e32 => ⟨true, rfl, ?_⟩⟩
    exact ⟨_, rfl, e2931.trans (exD_of e32), hD31.ex e32⟩
  rintro σ H30 ⟨u6, rfl, e30, hD30⟩
  have B30 := B29.exD e30 hD30
  refine ⟨_, rfl, _, _, rfl, d, c, 20, rfl, rfl, by decide, by decide, hD30, fun v H31 hv e31 hD31 => ?_⟩
  have B31 := B30.exD e31 hD31
  -- the bench
  refine ⟨_, rfl, fun bx dx nx nd _ => ?_⟩
  have xb := mk_ex (o := .own bx) (o' := .ins CB dx []) nx nd
  have B32 := B31.ex xb
  have hb32 : (upd (upd H31 dx (.own bx)) bx (.ins CB dx [])) bx = some (.ins CB dx []) := upd_same
  have nmb : mx ≠ bx := by
    obtain ⟨dm, sp, fd, zs, h1, _⟩ := B31.M
    exact ne_of_none h1 nx
  have ngb : lg ≠ bx := ne_of_none B31.g nx
  generalize (upd (upd H31 dx (.own bx)) bx (.ins CB dx [])) = H32 at xb B32 hb32 ⊢
  refine ⟨_, _, rfl, bx, mx, dx, vs.length, tr cs N, rfl, rfl, hb32, B32.M, nmb, fun H33 b33 hB33 => ⟨rfl, ?_⟩⟩
  have r133 := (exB_ins hb32 b33).1 B32.r1
  have r233 := (exB_ins hb32 b33).1 B32.r2
  refine ⟨_, rfl, _, rfl, _, rfl, _, _, _, _, rfl, bx, mx, o1, o2, vs.length, v, tr cs N, row1, row2, rfl, rfl, rfl, rfl, hB33, hw, ⟨.inr r133, hr1, hr1l⟩, ⟨.inr r233, hr2, hr2l⟩, fun H34 b34 => ?_⟩
  have g34 := b34 _ _ ngb (b33 _ _ ngb B32.g)
  refine ⟨_, rfl, _, rfl, lg, _, rfl, .inl (SqL.of g34), rfl, flat_nv goods, rfl, ?_⟩
  rw [if_neg Bool.false_ne_true, inV_nv, hf, hg]
  have hsame4 : decide (pw f v = pw g v) = decide (v ∈ goods) := decide_eq_decide.mpr ((hgm v).trans ⟨fun h => h.2, fun h => ⟨by omega, h⟩⟩).symm
  rw [hsame4, decide_eq_true (rfl : V.bl (decide (v ∈ goods)) = V.bl (decide (v ∈ goods)))]
  exact q H34
end
end Bf
/-! The chain of all promises; the facts about the module behind the top. -/
namespace Bf
open PySem PySem.Spec PyProof.Rows L2 RZ PpSet
open C8 (Cal Met Mak Def fnScope fnBody fnArgs InsC)
section
variable {K : PySem.W.Frag} {h : Heap} {mg : Str → Option Value}
theorem defB_mk {x : Str} {st : Stmt} {ps : List Str} {f : Addr} {oc kV doc pm cdv ct : Value} {od an : Option Addr} {osl : Array (Option Value)} (X : K.In h) (G : h.Ns mainGlobals mg)
    (a : PySem.W.nsIn K mainGlobals x = some (some (.ref f))) (l : K.lookup f = some ⟨oc, od, .func (PySem.W.fnOf x x (fnArgs st) (fnBody st) (fnScope st) .none kV doc pm an cdv ct), osl⟩)
    (c : PySem.W.codeIn K cdv x = true) (k : PySem.W.keepIn K (.ref f) = true)
    (hb : ∀ (kV doc pm : Value) (an : Option Addr) (cdv ct : Value) (us : List Value), us.length = ps.length → bindArgs (PySem.W.fnOf x x (fnArgs st) (fnBody st) (fnScope st) .none kV doc pm an cdv ct) ⟨us, []⟩ = pure (ps.zip us)) : DefB K mg x st ps :=
  ⟨f, _, ⟨⟨oc, od, .none, kV, doc, pm, an, cdv, ct, osl, rfl, l, c⟩, PySem.W.mg_of X G a, k⟩, .all (hb kV doc pm an cdv ct), rfl⟩
theorem metB_mk {C f : Addr} {m q : Str} {st : Stmt} {ps : List Str} {oc kV doc pm cdv ct : Value} {od an : Option Addr} {osl : Array (Option Value)} (T : Cls K C)
    (a : PySem.W.findIn K (.ref C) m = some (some (.ref f))) (i : PySem.W.isFn K (.ref f) = true) (l : K.lookup f = some ⟨oc, od, .func (PySem.W.fnOf m q (fnArgs st) (fnBody st) (fnScope st) .none kV doc pm an cdv ct), osl⟩)
    (c : PySem.W.codeIn K cdv q = true) (k : PySem.W.keepIn K (.ref f) = true)
    (hb : ∀ (kV doc pm : Value) (an : Option Addr) (cdv ct : Value) (us : List Value), us.length = ps.length → bindArgs (PySem.W.fnOf m q (fnArgs st) (fnBody st) (fnScope st) .none kV doc pm an cdv ct) ⟨us, []⟩ = pure (ps.zip us)) : MetB K C m q st ps :=
  ⟨f, _, T, ⟨a, i, k⟩, ⟨oc, od, .none, kV, doc, pm, an, cdv, ct, osl, rfl, l, c⟩, .all (hb kV doc pm an cdv ct)⟩
theorem makB_mk {C f : Addr} {x q : Str} {st : Stmt} {ps : List Str} {oc kV doc pm cdv ct : Value} {od an : Option Addr} {osl : Array (Option Value)} (hm : mg x = some (.ref C))
    (mk : PySem.W.makesIn K C = true) (kc : PySem.W.keepIn K (.ref C) = true) (a : PySem.W.findIn K (.ref C) "__init__" = some (some (.ref f))) (i : PySem.W.isFn K (.ref f) = true)
    (l : K.lookup f = some ⟨oc, od, .func (PySem.W.fnOf "__init__" q (fnArgs st) (fnBody st) (fnScope st) .none kV doc pm an cdv ct), osl⟩) (c : PySem.W.codeIn K cdv q = true)
    (hb : ∀ (kV doc pm : Value) (an : Option Addr) (cdv ct : Value) (us : List Value), us.length = ps.length → bindArgs (PySem.W.fnOf "__init__" q (fnArgs st) (fnBody st) (fnScope st) .none kV doc pm an cdv ct) ⟨us, []⟩ = pure (ps.zip us)) : MakB K mg x q C st ps :=
  ⟨f, _, ⟨mk, a, i, kc⟩, hm, ⟨oc, od, .none, kV, doc, pm, an, cdv, ct, osl, rfl, l, c⟩, .all (hb kV doc pm an cdv ct)⟩
theorem zb_mk (X : K.In h) (G : h.Ns mainGlobals mg) (z1 : PySem.W.nsIn K mainGlobals "len" = some none) (z2 : PySem.W.nsIn K mainGlobals "isinstance" = some none) (z3 : PySem.W.nsIn K mainGlobals "int" = some none)
    (z4 : PySem.W.nsIn K mainGlobals "bool" = some none) (z5 : PySem.W.nsIn K mainGlobals "list" = some none) (z6 : PySem.W.nsIn K mainGlobals "tuple" = some none) (z7 : PySem.W.nsIn K mainGlobals "range" = some none) (z8 : PySem.W.nsIn K mainGlobals "all" = some none)
    (z9 : PySem.W.nsIn K mainGlobals "enumerate" = some none) (z10 : PySem.W.nsIn K mainGlobals "zip" = some none) (z11 : PySem.W.nsIn K mainGlobals "sorted" = some none) (z12 : PySem.W.nsIn K mainGlobals "set" = some none)
    (z13 : PySem.W.nsIn K mainGlobals "min" = some none) (z14 : PySem.W.nsIn K mainGlobals "max" = some none) (z15 : PySem.W.nsIn K mainGlobals "sum" = some none) (z16 : PySem.W.nsIn K mainGlobals "abs" = some none) : Zb mg :=
  ⟨PySem.W.mg_none_of X G z1, PySem.W.mg_none_of X G z2, PySem.W.mg_none_of X G z3, PySem.W.mg_none_of X G z4, PySem.W.mg_none_of X G z5, PySem.W.mg_none_of X G z6, PySem.W.mg_none_of X G z7, PySem.W.mg_none_of X G z8, PySem.W.mg_none_of X G z9, PySem.W.mg_none_of X G z10, PySem.W.mg_none_of X G z11, PySem.W.mg_none_of X G z12, PySem.W.mg_none_of X G z13, PySem.W.mg_none_of X G z14, PySem.W.mg_none_of X G z15, PySem.W.mg_none_of X G z16⟩
/-- what «except C» names -/
theorem exm_own {S : Addr} (h1 : PySem.W.subIn K (.ref S) (.type "BaseException") = some true) (h2 : PySem.W.isClsIn K S = true) (h3 : PySem.W.typeIn K (.ref S) = some (.type "type")) (h4 : PySem.W.subIn K (.ref S) (.ref S) = some true) : PySem.W.exmOne K (.ref S) (.ref S) = some true := by
  have e1 : (PySem.W.subIn K (.ref S) (.type "BaseException") == some true) = true := by rw [h1]; first | done | rfl
  have h5 : (PySem.W.clsIn K S).isSome = true := h2
  have e2 : ((PySem.W.clsIn K S).isSome && PySem.W.typeIn K (.ref S) == some (.type "type")) = true := by rw [h5, h3]; first | done | rfl
  unfold PySem.W.exmOne PySem.W.kitCls
  first
    | (rw [if_pos e1, if_pos e2]; exact h4)
    | (simp only [e1, e2, if_true]; exact h4)
end
abbrev s_Refused_init : Stmt := inClass (topS 6) 0
theorem body_Refused : fnBody s_Refused_init = [.Expr (.Call (.Attribute (.Call (.Name "super" ⟨25, 8, 25, 13⟩) [] [] ⟨25, 8, 25, 15⟩) "__init__" ⟨25, 8, 25, 24⟩) [.Constant (.str "refused") 0 ⟨25, 25, 25, 34⟩] [] ⟨25, 8, 25, 35⟩) ⟨25, 8, 25, 35⟩,
    .Assign [.Attribute (.Name "self" ⟨26, 8, 26, 12⟩) "at" ⟨26, 8, 26, 15⟩] (.Name "at" ⟨26, 18, 26, 20⟩) ⟨26, 8, 26, 20⟩] := rfl
theorem b_Refused (kV doc pm : Value) (an : Option Addr) (cdv ct : Value) (cc : Addr) (us : List Value) (hl : us.length = (["self", "at"] : List Str).length) :
    bindArgs (PySem.W.ksFn "__init__" "Refused.__init__" (fnArgs s_Refused_init) (fnBody s_Refused_init) (fnScope s_Refused_init) .none kV doc pm an cdv ct cc) ⟨us, []⟩ = pure ((["self", "at"] : List Str).zip us) :=
  match us, hl with
  | [_, _], _ => rfl
section
variable {P : Program} {w : World} {K : PySem.W.Frag} {mg : Str → Option Value}
theorem insC_mk {C : Addr} (T : Cls K C) (h1 : PySem.W.findIn K (.ref C) "__class__" = some (some (.builtin "object.__class__")))
    (h2 : PySem.W.specialIn K (.builtin "object.__class__") "__get__" = some (some (.builtin "getset_descriptor.__get__"))) (h3 : PySem.W.takesIn K (.builtin "object.__class__") = some true)
    (h4 : PySem.W.mroIn K C (.type "object") = some true) : InsC K C :=
  ⟨T, h1, h2, h3, h4, if_pos (beq_self_eq_true _)⟩
theorem rx_mk {h : Heap} {C fI cda cc N : Addr} {nm q : Str} {bs bm sub : List Value} {sn : List Str} {ab : Bool} {col : Option Bool} {dd od an cdd cld : Option Addr} {m0 m1 m2 m3 m5 : Option Value}
    {oc kV doc pm ct ccl cl : Value} {osl ccs csl : Array (Option Value)} {vs : Array Value} {file : Str} {tf : Tok} (X : K.In h) (G : h.Ns mainGlobals mg) (gR : mg "Refused" = some (.ref C))
    (xL : K.lookup C = some (excClassObj nm q C N bs bm true sn sub ab col dd m0 m1 m2 m3 m5 "ValueError.__new__")) (hbm : PySem.HandSPX.refsVE bm = true)
    (sa : PySem.W.findIn K (.ref C) "__setattr__" = some (some (.builtin "object.__setattr__"))) (eC : PySem.W.subIn K (.ref C) (.type "BaseException") = some true) (tC : PySem.W.typeIn K (.ref C) = some (.type "type")) (kC : PySem.W.keepIn K (.ref C) = true)
    (iC : PySem.W.isClsIn K C = true) (sC : PySem.W.subIn K (.ref C) (.ref C) = some true) (mC : PySem.W.mroIn K C (.ref C) = some true) (nA : PySem.W.findIn K (.ref C) "at" = some none)
    (sup : PySem.W.ks_superIn K C C "__init__" = some (some (.builtin Ve))) (vC : PySem.W.subIn K (.ref C) (.type "ValueError") = some true) (oq : PySem.W.nsIn K cStatics "thirdparty.any" = some none) (ns : PySem.W.nsIn K mainGlobals "super" = some none)
    (a1 : PySem.W.findIn K (.ref C) "__init__" = some (some (.ref fI))) (t1 : PySem.W.typeIn K (.ref fI) = some (.type "function"))
    (l1 : K.lookup fI = some ⟨oc, od, .func (PySem.W.ksFn "__init__" "Refused.__init__" (fnArgs s_Refused_init) (fnBody s_Refused_init) (fnScope s_Refused_init) .none kV doc pm an (.ref cda) ct cc), osl⟩)
    (l2 : K.lookup cda = some ⟨ccl, cdd, .fields vs, ccs⟩) (c1 : PySem.W.codeIn K (.ref cda) "Refused.__init__" = true) (hv : vs[2]? = some (.str file tf)) (hf : ((P.main.file : Str) == file) = true)
    (l3 : K.lookup cc = some ⟨cl, cld, .cell (some (.ref C)), csl⟩) (tp : (P.main.scope.names.lookup ("super" : Str)).isSome = false) (base : Heap) : Rx P w K mg base C := by
  have T : OexC K C := ⟨⟨nm, q, N, bs, bm, sn, sub, ab, col, dd, m0, m1, m2, m3, m5, xL, hbm⟩, sa, eC, tC, kC⟩
  have hcd : ∃ cdD, PySem.W.clsIn K C = some cdD := by
    unfold PySem.W.clsIn
    rw [xL]
    exact ⟨_, rfl⟩
  obtain ⟨cdD, hcd⟩ := hcd
  refine ⟨T, gR, ⟨fI, _, a1, t1, .all (b_Refused kV doc pm an (.ref cda) ct cc), ?_⟩, exm_own eC iC tC sC⟩
  have J : ErrC P K C fI "Refused.__init__" "at" "self" "at" ⟨25, 8, 25, 13⟩ ⟨25, 8, 25, 15⟩ ⟨25, 8, 25, 24⟩ ⟨25, 25, 25, 34⟩ ⟨25, 8, 25, 35⟩ ⟨25, 8, 25, 35⟩ ⟨26, 8, 26, 12⟩ ⟨26, 8, 26, 15⟩ ⟨26, 18, 26, 20⟩ ⟨26, 8, 26, 20⟩ "refused" 0 (fnScope s_Refused_init)
      (PySem.W.ksFn "__init__" "Refused.__init__" (fnArgs s_Refused_init) (fnBody s_Refused_init) (fnScope s_Refused_init) .none kV doc pm an (.ref cda) ct cc) :=
    { T := T, cd := ⟨cdD, hcd, mC⟩, at_ := nA, sup := sup, sub := vC, opq := oq, nsu := ns,
      ex := ⟨fnArgs s_Refused_init, { arg := "self", annotation := none, pos := ⟨24, 17, 24, 21⟩ }, oc, ccl, cl, .none, kV, doc, pm, ct, od, cdd, cld, an, osl, ccs, csl, cda, cc, vs, file, tf, rfl, rfl, rfl, l1, l2, c1, hv, hf, l3⟩,
      names := ⟨rfl, rfl, rfl, by decide +kernel, by decide +kernel, by decide +kernel, by decide +kernel, by decide +kernel⟩, top := tp }
  exact err_ok (k := 0) J (PySem.W.mg_none_of X G ns) (by decide +kernel) (by decide +kernel) (by decide +kernel) (fun env => ⟨_, rfl⟩) (fun _ _ _ => rfl) (fun _ _ _ => rfl)
end
theorem b_is_integer (kV doc pm : Value) (an : Option Addr) (cdv ct : Value) (us : List Value) (hl : us.length = (["value"] : List Str).length) : bindArgs (PySem.W.fnOf "is_integer" "is_integer" (fnArgs s_is_integer) (fnBody s_is_integer) (fnScope s_is_integer) .none kV doc pm an cdv ct) ⟨us, []⟩ = pure ((["value"] : List Str).zip us) :=
  match us, hl with
  | [_], _ => rfl
theorem b_is_number (kV doc pm : Value) (an : Option Addr) (cdv ct : Value) (us : List Value) (hl : us.length = (["value"] : List Str).length) : bindArgs (PySem.W.fnOf "is_number" "is_number" (fnArgs s_is_number) (fnBody s_is_number) (fnScope s_is_number) .none kV doc pm an cdv ct) ⟨us, []⟩ = pure ((["value"] : List Str).zip us) :=
  match us, hl with
  | [_], _ => rfl
theorem b_is_index (kV doc pm : Value) (an : Option Addr) (cdv ct : Value) (us : List Value) (hl : us.length = (["value", "many"] : List Str).length) : bindArgs (PySem.W.fnOf "is_index" "is_index" (fnArgs s_is_index) (fnBody s_is_index) (fnScope s_is_index) .none kV doc pm an cdv ct) ⟨us, []⟩ = pure ((["value", "many"] : List Str).zip us) :=
  match us, hl with
  | [_, _], _ => rfl
theorem b_is_sequence (kV doc pm : Value) (an : Option Addr) (cdv ct : Value) (us : List Value) (hl : us.length = (["value"] : List Str).length) : bindArgs (PySem.W.fnOf "is_sequence" "is_sequence" (fnArgs s_is_sequence) (fnBody s_is_sequence) (fnScope s_is_sequence) .none kV doc pm an cdv ct) ⟨us, []⟩ = pure ((["value"] : List Str).zip us) :=
  match us, hl with
  | [_], _ => rfl
theorem b_common_divisor (kV doc pm : Value) (an : Option Addr) (cdv ct : Value) (us : List Value) (hl : us.length = (["one", "other"] : List Str).length) : bindArgs (PySem.W.fnOf "common_divisor" "common_divisor" (fnArgs s_common_divisor) (fnBody s_common_divisor) (fnScope s_common_divisor) .none kV doc pm an cdv ct) ⟨us, []⟩ = pure ((["one", "other"] : List Str).zip us) :=
  match us, hl with
  | [_, _], _ => rfl
theorem b_common_multiple (kV doc pm : Value) (an : Option Addr) (cdv ct : Value) (us : List Value) (hl : us.length = (["one", "other"] : List Str).length) : bindArgs (PySem.W.fnOf "common_multiple" "common_multiple" (fnArgs s_common_multiple) (fnBody s_common_multiple) (fnScope s_common_multiple) .none kV doc pm an cdv ct) ⟨us, []⟩ = pure ((["one", "other"] : List Str).zip us) :=
  match us, hl with
  | [_, _], _ => rfl
theorem b_idle (kV doc pm : Value) (an : Option Addr) (cdv ct : Value) (us : List Value) (hl : us.length = (["states"] : List Str).length) : bindArgs (PySem.W.fnOf "idle" "idle" (fnArgs s_idle) (fnBody s_idle) (fnScope s_idle) .none kV doc pm an cdv ct) ⟨us, []⟩ = pure ((["states"] : List Str).zip us) :=
  match us, hl with
  | [_], _ => rfl
theorem b_after (kV doc pm : Value) (an : Option Addr) (cdv ct : Value) (us : List Value) (hl : us.length = (["one", "other"] : List Str).length) : bindArgs (PySem.W.fnOf "after" "after" (fnArgs s_after) (fnBody s_after) (fnScope s_after) .none kV doc pm an cdv ct) ⟨us, []⟩ = pure ((["one", "other"] : List Str).zip us) :=
  match us, hl with
  | [_, _], _ => rfl
theorem b_raised (kV doc pm : Value) (an : Option Addr) (cdv ct : Value) (us : List Value) (hl : us.length = (["change", "count"] : List Str).length) : bindArgs (PySem.W.fnOf "raised" "raised" (fnArgs s_raised) (fnBody s_raised) (fnScope s_raised) .none kV doc pm an cdv ct) ⟨us, []⟩ = pure ((["change", "count"] : List Str).zip us) :=
  match us, hl with
  | [_, _], _ => rfl
theorem b_Machine_does (kV doc pm : Value) (an : Option Addr) (cdv ct : Value) (us : List Value) (hl : us.length = (["self", "command"] : List Str).length) : bindArgs (PySem.W.fnOf "does" "Machine.does" (fnArgs s_Machine_does) (fnBody s_Machine_does) (fnScope s_Machine_does) .none kV doc pm an cdv ct) ⟨us, []⟩ = pure ((["self", "command"] : List Str).zip us) :=
  match us, hl with
  | [_, _], _ => rfl
theorem b_Machine_init (kV doc pm : Value) (an : Option Addr) (cdv ct : Value) (us : List Value) (hl : us.length = (["self", "commands", "steps"] : List Str).length) : bindArgs (PySem.W.fnOf "__init__" "Machine.__init__" (fnArgs s_Machine_init) (fnBody s_Machine_init) (fnScope s_Machine_init) .none kV doc pm an cdv ct) ⟨us, []⟩ = pure ((["self", "commands", "steps"] : List Str).zip us) :=
  match us, hl with
  | [_, _, _], _ => rfl
theorem b_tail_and_ring (kV doc pm : Value) (an : Option Addr) (cdv ct : Value) (us : List Value) (hl : us.length = (["change"] : List Str).length) : bindArgs (PySem.W.fnOf "tail_and_ring" "tail_and_ring" (fnArgs s_tail_and_ring) (fnBody s_tail_and_ring) (fnScope s_tail_and_ring) .none kV doc pm an cdv ct) ⟨us, []⟩ = pure ((["change"] : List Str).zip us) :=
  match us, hl with
  | [_], _ => rfl
theorem b_checked_row (kV doc pm : Value) (an : Option Addr) (cdv ct : Value) (us : List Value) (hl : us.length = (["machine", "value"] : List Str).length) : bindArgs (PySem.W.fnOf "checked_row" "checked_row" (fnArgs s_checked_row) (fnBody s_checked_row) (fnScope s_checked_row) .none kV doc pm an cdv ct) ⟨us, []⟩ = pure ((["machine", "value"] : List Str).zip us) :=
  match us, hl with
  | [_, _], _ => rfl
theorem b_change_of (kV doc pm : Value) (an : Option Addr) (cdv ct : Value) (us : List Value) (hl : us.length = (["machine", "row"] : List Str).length) : bindArgs (PySem.W.fnOf "change_of" "change_of" (fnArgs s_change_of) (fnBody s_change_of) (fnScope s_change_of) .none kV doc pm an cdv ct) ⟨us, []⟩ = pure ((["machine", "row"] : List Str).zip us) :=
  match us, hl with
  | [_, _], _ => rfl
theorem b_reach_of (kV doc pm : Value) (an : Option Addr) (cdv ct : Value) (us : List Value) (hl : us.length = (["first", "second"] : List Str).length) : bindArgs (PySem.W.fnOf "reach_of" "reach_of" (fnArgs s_reach_of) (fnBody s_reach_of) (fnScope s_reach_of) .none kV doc pm an cdv ct) ⟨us, []⟩ = pure ((["first", "second"] : List Str).zip us) :=
  match us, hl with
  | [_, _], _ => rfl
theorem b_both_rings (kV doc pm : Value) (an : Option Addr) (cdv ct : Value) (us : List Value) (hl : us.length = (["first", "second"] : List Str).length) : bindArgs (PySem.W.fnOf "both_rings" "both_rings" (fnArgs s_both_rings) (fnBody s_both_rings) (fnScope s_both_rings) .none kV doc pm an cdv ct) ⟨us, []⟩ = pure ((["first", "second"] : List Str).zip us) :=
  match us, hl with
  | [_, _], _ => rfl
theorem b_from_on (kV doc pm : Value) (an : Option Addr) (cdv ct : Value) (us : List Value) (hl : us.length = (["number", "least"] : List Str).length) : bindArgs (PySem.W.fnOf "from_on" "from_on" (fnArgs s_from_on) (fnBody s_from_on) (fnScope s_from_on) .none kV doc pm an cdv ct) ⟨us, []⟩ = pure ((["number", "least"] : List Str).zip us) :=
  match us, hl with
  | [_, _], _ => rfl
theorem b_agree (kV doc pm : Value) (an : Option Addr) (cdv ct : Value) (us : List Value) (hl : us.length = (["first", "second", "count"] : List Str).length) : bindArgs (PySem.W.fnOf "agree" "agree" (fnArgs s_agree) (fnBody s_agree) (fnScope s_agree) .none kV doc pm an cdv ct) ⟨us, []⟩ = pure ((["first", "second", "count"] : List Str).zip us) :=
  match us, hl with
  | [_, _, _], _ => rfl
theorem b_primes_of (kV doc pm : Value) (an : Option Addr) (cdv ct : Value) (us : List Value) (hl : us.length = (["number"] : List Str).length) : bindArgs (PySem.W.fnOf "primes_of" "primes_of" (fnArgs s_primes_of) (fnBody s_primes_of) (fnScope s_primes_of) .none kV doc pm an cdv ct) ⟨us, []⟩ = pure ((["number"] : List Str).zip us) :=
  match us, hl with
  | [_], _ => rfl
theorem b_end_of (kV doc pm : Value) (an : Option Addr) (cdv ct : Value) (us : List Value) (hl : us.length = (["first", "second"] : List Str).length) : bindArgs (PySem.W.fnOf "end_of" "end_of" (fnArgs s_end_of) (fnBody s_end_of) (fnScope s_end_of) .none kV doc pm an cdv ct) ⟨us, []⟩ = pure ((["first", "second"] : List Str).zip us) :=
  match us, hl with
  | [_, _], _ => rfl
theorem b_near_counts (kV doc pm : Value) (an : Option Addr) (cdv ct : Value) (us : List Value) (hl : us.length = (["first", "second"] : List Str).length) : bindArgs (PySem.W.fnOf "near_counts" "near_counts" (fnArgs s_near_counts) (fnBody s_near_counts) (fnScope s_near_counts) .none kV doc pm an cdv ct) ⟨us, []⟩ = pure ((["first", "second"] : List Str).zip us) :=
  match us, hl with
  | [_, _], _ => rfl
theorem b_runs_of (kV doc pm : Value) (an : Option Addr) (cdv ct : Value) (us : List Value) (hl : us.length = (["counts", "end"] : List Str).length) : bindArgs (PySem.W.fnOf "runs_of" "runs_of" (fnArgs s_runs_of) (fnBody s_runs_of) (fnScope s_runs_of) .none kV doc pm an cdv ct) ⟨us, []⟩ = pure ((["counts", "end"] : List Str).zip us) :=
  match us, hl with
  | [_, _], _ => rfl
theorem b_is_run (kV doc pm : Value) (an : Option Addr) (cdv ct : Value) (us : List Value) (hl : us.length = (["value"] : List Str).length) : bindArgs (PySem.W.fnOf "is_run" "is_run" (fnArgs s_is_run) (fnBody s_is_run) (fnScope s_is_run) .none kV doc pm an cdv ct) ⟨us, []⟩ = pure ((["value"] : List Str).zip us) :=
  match us, hl with
  | [_], _ => rfl
theorem b_is_within (kV doc pm : Value) (an : Option Addr) (cdv ct : Value) (us : List Value) (hl : us.length = (["runs", "end", "count"] : List Str).length) : bindArgs (PySem.W.fnOf "is_within" "is_within" (fnArgs s_is_within) (fnBody s_is_within) (fnScope s_is_within) .none kV doc pm an cdv ct) ⟨us, []⟩ = pure ((["runs", "end", "count"] : List Str).zip us) :=
  match us, hl with
  | [_, _, _], _ => rfl
theorem b_is_falling (kV doc pm : Value) (an : Option Addr) (cdv ct : Value) (us : List Value) (hl : us.length = (["value"] : List Str).length) : bindArgs (PySem.W.fnOf "is_falling" "is_falling" (fnArgs s_is_falling) (fnBody s_is_falling) (fnScope s_is_falling) .none kV doc pm an cdv ct) ⟨us, []⟩ = pure ((["value"] : List Str).zip us) :=
  match us, hl with
  | [_], _ => rfl
theorem b_checked_falling (kV doc pm : Value) (an : Option Addr) (cdv ct : Value) (us : List Value) (hl : us.length = (["value"] : List Str).length) : bindArgs (PySem.W.fnOf "checked_falling" "checked_falling" (fnArgs s_checked_falling) (fnBody s_checked_falling) (fnScope s_checked_falling) .none kV doc pm an cdv ct) ⟨us, []⟩ = pure ((["value"] : List Str).zip us) :=
  match us, hl with
  | [_], _ => rfl
theorem b_has (kV doc pm : Value) (an : Option Addr) (cdv ct : Value) (us : List Value) (hl : us.length = (["falling", "count"] : List Str).length) : bindArgs (PySem.W.fnOf "has" "has" (fnArgs s_has) (fnBody s_has) (fnScope s_has) .none kV doc pm an cdv ct) ⟨us, []⟩ = pure ((["falling", "count"] : List Str).zip us) :=
  match us, hl with
  | [_, _], _ => rfl
theorem b_falling_of (kV doc pm : Value) (an : Option Addr) (cdv ct : Value) (us : List Value) (hl : us.length = (["first", "second"] : List Str).length) : bindArgs (PySem.W.fnOf "falling_of" "falling_of" (fnArgs s_falling_of) (fnBody s_falling_of) (fnScope s_falling_of) .none kV doc pm an cdv ct) ⟨us, []⟩ = pure ((["first", "second"] : List Str).zip us) :=
  match us, hl with
  | [_, _], _ => rfl
theorem b_agreeing (kV doc pm : Value) (an : Option Addr) (cdv ct : Value) (us : List Value) (hl : us.length = (["machine", "one", "other"] : List Str).length) : bindArgs (PySem.W.fnOf "agreeing" "agreeing" (fnArgs s_agreeing) (fnBody s_agreeing) (fnScope s_agreeing) .none kV doc pm an cdv ct) ⟨us, []⟩ = pure ((["machine", "one", "other"] : List Str).zip us) :=
  match us, hl with
  | [_, _, _], _ => rfl
theorem b_checked_counts (kV doc pm : Value) (an : Option Addr) (cdv ct : Value) (us : List Value) (hl : us.length = (["value"] : List Str).length) : bindArgs (PySem.W.fnOf "checked_counts" "checked_counts" (fnArgs s_checked_counts) (fnBody s_checked_counts) (fnScope s_checked_counts) .none kV doc pm an cdv ct) ⟨us, []⟩ = pure ((["value"] : List Str).zip us) :=
  match us, hl with
  | [_], _ => rfl
theorem b_closing (kV doc pm : Value) (an : Option Addr) (cdv ct : Value) (us : List Value) (hl : us.length = (["counts"] : List Str).length) : bindArgs (PySem.W.fnOf "closing" "closing" (fnArgs s_closing) (fnBody s_closing) (fnScope s_closing) .none kV doc pm an cdv ct) ⟨us, []⟩ = pure ((["counts"] : List Str).zip us) :=
  match us, hl with
  | [_], _ => rfl
theorem b_links_of (kV doc pm : Value) (an : Option Addr) (cdv ct : Value) (us : List Value) (hl : us.length = (["counts"] : List Str).length) : bindArgs (PySem.W.fnOf "links_of" "links_of" (fnArgs s_links_of) (fnBody s_links_of) (fnScope s_links_of) .none kV doc pm an cdv ct) ⟨us, []⟩ = pure ((["counts"] : List Str).zip us) :=
  match us, hl with
  | [_], _ => rfl
theorem b_nearer (kV doc pm : Value) (an : Option Addr) (cdv ct : Value) (us : List Value) (hl : us.length = (["links", "count"] : List Str).length) : bindArgs (PySem.W.fnOf "nearer" "nearer" (fnArgs s_nearer) (fnBody s_nearer) (fnScope s_nearer) .none kV doc pm an cdv ct) ⟨us, []⟩ = pure ((["links", "count"] : List Str).zip us) :=
  match us, hl with
  | [_, _], _ => rfl
theorem b_hanging (kV doc pm : Value) (an : Option Addr) (cdv ct : Value) (us : List Value) (hl : us.length = (["counts", "count"] : List Str).length) : bindArgs (PySem.W.fnOf "hanging" "hanging" (fnArgs s_hanging) (fnBody s_hanging) (fnScope s_hanging) .none kV doc pm an cdv ct) ⟨us, []⟩ = pure ((["counts", "count"] : List Str).zip us) :=
  match us, hl with
  | [_, _], _ => rfl
theorem b_walk (kV doc pm : Value) (an : Option Addr) (cdv ct : Value) (us : List Value) (hl : us.length = (["counts", "count"] : List Str).length) : bindArgs (PySem.W.fnOf "walk" "walk" (fnArgs s_walk) (fnBody s_walk) (fnScope s_walk) .none kV doc pm an cdv ct) ⟨us, []⟩ = pure ((["counts", "count"] : List Str).zip us) :=
  match us, hl with
  | [_, _], _ => rfl
theorem b_checked_mark (kV doc pm : Value) (an : Option Addr) (cdv ct : Value) (us : List Value) (hl : us.length = (["value"] : List Str).length) : bindArgs (PySem.W.fnOf "checked_mark" "checked_mark" (fnArgs s_checked_mark) (fnBody s_checked_mark) (fnScope s_checked_mark) .none kV doc pm an cdv ct) ⟨us, []⟩ = pure ((["value"] : List Str).zip us) :=
  match us, hl with
  | [_], _ => rfl
theorem b_mark_for (kV doc pm : Value) (an : Option Addr) (cdv ct : Value) (us : List Value) (hl : us.length = (["counts", "count"] : List Str).length) : bindArgs (PySem.W.fnOf "mark_for" "mark_for" (fnArgs s_mark_for) (fnBody s_mark_for) (fnScope s_mark_for) .none kV doc pm an cdv ct) ⟨us, []⟩ = pure ((["counts", "count"] : List Str).zip us) :=
  match us, hl with
  | [_, _], _ => rfl
theorem b_apart (kV doc pm : Value) (an : Option Addr) (cdv ct : Value) (us : List Value) (hl : us.length = ([] : List Str).length) : bindArgs (PySem.W.fnOf "apart" "apart" (fnArgs s_apart) (fnBody s_apart) (fnScope s_apart) .none kV doc pm an cdv ct) ⟨us, []⟩ = pure (([] : List Str).zip us) :=
  match us, hl with
  | [], _ => rfl
theorem b_ring_of (kV doc pm : Value) (an : Option Addr) (cdv ct : Value) (us : List Value) (hl : us.length = (["size"] : List Str).length) : bindArgs (PySem.W.fnOf "ring_of" "ring_of" (fnArgs s_ring_of) (fnBody s_ring_of) (fnScope s_ring_of) .none kV doc pm an cdv ct) ⟨us, []⟩ = pure ((["size"] : List Str).zip us) :=
  match us, hl with
  | [_], _ => rfl
theorem b_least_power (kV doc pm : Value) (an : Option Addr) (cdv ct : Value) (us : List Value) (hl : us.length = (["links", "count"] : List Str).length) : bindArgs (PySem.W.fnOf "least_power" "least_power" (fnArgs s_least_power) (fnBody s_least_power) (fnScope s_least_power) .none kV doc pm an cdv ct) ⟨us, []⟩ = pure ((["links", "count"] : List Str).zip us) :=
  match us, hl with
  | [_, _], _ => rfl
theorem b_marked_machine (kV doc pm : Value) (an : Option Addr) (cdv ct : Value) (us : List Value) (hl : us.length = (["mark"] : List Str).length) : bindArgs (PySem.W.fnOf "marked_machine" "marked_machine" (fnArgs s_marked_machine) (fnBody s_marked_machine) (fnScope s_marked_machine) .none kV doc pm an cdv ct) ⟨us, []⟩ = pure ((["mark"] : List Str).zip us) :=
  match us, hl with
  | [_], _ => rfl
theorem b_machine_against (kV doc pm : Value) (an : Option Addr) (cdv ct : Value) (us : List Value) (hl : us.length = (["counts", "count"] : List Str).length) : bindArgs (PySem.W.fnOf "machine_against" "machine_against" (fnArgs s_machine_against) (fnBody s_machine_against) (fnScope s_machine_against) .none kV doc pm an cdv ct) ⟨us, []⟩ = pure ((["counts", "count"] : List Str).zip us) :=
  match us, hl with
  | [_, _], _ => rfl
theorem b_Bench_init (kV doc pm : Value) (an : Option Addr) (cdv ct : Value) (us : List Value) (hl : us.length = (["self", "machine"] : List Str).length) : bindArgs (PySem.W.fnOf "__init__" "Bench.__init__" (fnArgs s_Bench_init) (fnBody s_Bench_init) (fnScope s_Bench_init) .none kV doc pm an cdv ct) ⟨us, []⟩ = pure ((["self", "machine"] : List Str).zip us) :=
  match us, hl with
  | [_, _], _ => rfl
theorem b_Bench_program (kV doc pm : Value) (an : Option Addr) (cdv ct : Value) (us : List Value) (hl : us.length = (["self"] : List Str).length) : bindArgs (PySem.W.fnOf "program" "Bench.program" (fnArgs s_Bench_program) (fnBody s_Bench_program) (fnScope s_Bench_program) .none kV doc pm an cdv ct) ⟨us, []⟩ = pure ((["self"] : List Str).zip us) :=
  match us, hl with
  | [_], _ => rfl
theorem b_Bench_turn (kV doc pm : Value) (an : Option Addr) (cdv ct : Value) (us : List Value) (hl : us.length = (["self", "program"] : List Str).length) : bindArgs (PySem.W.fnOf "turn" "Bench.turn" (fnArgs s_Bench_turn) (fnBody s_Bench_turn) (fnScope s_Bench_turn) .none kV doc pm an cdv ct) ⟨us, []⟩ = pure ((["self", "program"] : List Str).zip us) :=
  match us, hl with
  | [_, _], _ => rfl
theorem b_Bench_put (kV doc pm : Value) (an : Option Addr) (cdv ct : Value) (us : List Value) (hl : us.length = (["self", "at", "count", "row"] : List Str).length) : bindArgs (PySem.W.fnOf "put" "Bench.put" (fnArgs s_Bench_put) (fnBody s_Bench_put) (fnScope s_Bench_put) .none kV doc pm an cdv ct) ⟨us, []⟩ = pure ((["self", "at", "count", "row"] : List Str).zip us) :=
  match us, hl with
  | [_, _, _, _], _ => rfl
theorem b_Bench_could (kV doc pm : Value) (an : Option Addr) (cdv ct : Value) (us : List Value) (hl : us.length = (["self", "at", "row"] : List Str).length) : bindArgs (PySem.W.fnOf "could" "Bench.could" (fnArgs s_Bench_could) (fnBody s_Bench_could) (fnScope s_Bench_could) .none kV doc pm an cdv ct) ⟨us, []⟩ = pure ((["self", "at", "row"] : List Str).zip us) :=
  match us, hl with
  | [_, _, _], _ => rfl
theorem b_Bench_exchange (kV doc pm : Value) (an : Option Addr) (cdv ct : Value) (us : List Value) (hl : us.length = (["self", "at", "row"] : List Str).length) : bindArgs (PySem.W.fnOf "exchange" "Bench.exchange" (fnArgs s_Bench_exchange) (fnBody s_Bench_exchange) (fnScope s_Bench_exchange) .none kV doc pm an cdv ct) ⟨us, []⟩ = pure ((["self", "at", "row"] : List Str).zip us) :=
  match us, hl with
  | [_, _, _], _ => rfl
theorem b_law_let (kV doc pm : Value) (an : Option Addr) (cdv ct : Value) (us : List Value) (hl : us.length = (["_law_bench", "_law_count", "_law_one", "_law_other"] : List Str).length) : bindArgs (PySem.W.fnOf "_law_let" "_law_let" (fnArgs s_law_let) (fnBody s_law_let) (fnScope s_law_let) .none kV doc pm an cdv ct) ⟨us, []⟩ = pure ((["_law_bench", "_law_count", "_law_one", "_law_other"] : List Str).zip us) :=
  match us, hl with
  | [_, _, _, _], _ => rfl
theorem b_law_draw (kV doc pm : Value) (an : Option Addr) (cdv ct : Value) (us : List Value) (hl : us.length = (["_law_script", "_law_salt"] : List Str).length) : bindArgs (PySem.W.fnOf "_law_draw" "_law_draw" (fnArgs s_law_draw) (fnBody s_law_draw) (fnScope s_law_draw) .none kV doc pm an cdv ct) ⟨us, []⟩ = pure ((["_law_script", "_law_salt"] : List Str).zip us) :=
  match us, hl with
  | [_, _], _ => rfl
theorem b_law_any (kV doc pm : Value) (an : Option Addr) (cdv ct : Value) (us : List Value) (hl : us.length = (["_law_deal", "_law_bound"] : List Str).length) : bindArgs (PySem.W.fnOf "_law_any" "_law_any" (fnArgs s_law_any) (fnBody s_law_any) (fnScope s_law_any) .none kV doc pm an cdv ct) ⟨us, []⟩ = pure ((["_law_deal", "_law_bound"] : List Str).zip us) :=
  match us, hl with
  | [_, _], _ => rfl
theorem b_law_of (kV doc pm : Value) (an : Option Addr) (cdv ct : Value) (us : List Value) (hl : us.length = (["_law_deal", "_law_some"] : List Str).length) : bindArgs (PySem.W.fnOf "_law_of" "_law_of" (fnArgs s_law_of) (fnBody s_law_of) (fnScope s_law_of) .none kV doc pm an cdv ct) ⟨us, []⟩ = pure ((["_law_deal", "_law_some"] : List Str).zip us) :=
  match us, hl with
  | [_, _], _ => rfl
theorem b_law_mixed (kV doc pm : Value) (an : Option Addr) (cdv ct : Value) (us : List Value) (hl : us.length = (["_law_deal", "_law_some"] : List Str).length) : bindArgs (PySem.W.fnOf "_law_mixed" "_law_mixed" (fnArgs s_law_mixed) (fnBody s_law_mixed) (fnScope s_law_mixed) .none kV doc pm an cdv ct) ⟨us, []⟩ = pure ((["_law_deal", "_law_some"] : List Str).zip us) :=
  match us, hl with
  | [_, _], _ => rfl
theorem b_law_then (kV doc pm : Value) (an : Option Addr) (cdv ct : Value) (us : List Value) (hl : us.length = (["_law_one", "_law_other"] : List Str).length) : bindArgs (PySem.W.fnOf "_law_then" "_law_then" (fnArgs s_law_then) (fnBody s_law_then) (fnScope s_law_then) .none kV doc pm an cdv ct) ⟨us, []⟩ = pure ((["_law_one", "_law_other"] : List Str).zip us) :=
  match us, hl with
  | [_, _], _ => rfl
theorem b_law_place (kV doc pm : Value) (an : Option Addr) (cdv ct : Value) (us : List Value) (hl : us.length = (["_law_many", "_law_s", "_law_q", "_law_r", "_law_side"] : List Str).length) : bindArgs (PySem.W.fnOf "_law_place" "_law_place" (fnArgs s_law_place) (fnBody s_law_place) (fnScope s_law_place) .none kV doc pm an cdv ct) ⟨us, []⟩ = pure ((["_law_many", "_law_s", "_law_q", "_law_r", "_law_side"] : List Str).zip us) :=
  match us, hl with
  | [_, _, _, _, _], _ => rfl
theorem b_law_power (kV doc pm : Value) (an : Option Addr) (cdv ct : Value) (us : List Value) (hl : us.length = (["_law_one", "_law_count"] : List Str).length) : bindArgs (PySem.W.fnOf "_law_power" "_law_power" (fnArgs s_law_power) (fnBody s_law_power) (fnScope s_law_power) .none kV doc pm an cdv ct) ⟨us, []⟩ = pure ((["_law_one", "_law_count"] : List Str).zip us) :=
  match us, hl with
  | [_, _], _ => rfl
theorem b_law_two (kV doc pm : Value) (an : Option Addr) (cdv ct : Value) (us : List Value) (hl : us.length = (["_law_firsts", "_law_end"] : List Str).length) : bindArgs (PySem.W.fnOf "_law_two" "_law_two" (fnArgs s_law_two) (fnBody s_law_two) (fnScope s_law_two) .none kV doc pm an cdv ct) ⟨us, []⟩ = pure ((["_law_firsts", "_law_end"] : List Str).zip us) :=
  match us, hl with
  | [_, _], _ => rfl
theorem b_law_members (kV doc pm : Value) (an : Option Addr) (cdv ct : Value) (us : List Value) (hl : us.length = (["_law_firsts", "_law_end", "_law_most"] : List Str).length) : bindArgs (PySem.W.fnOf "_law_members" "_law_members" (fnArgs s_law_members) (fnBody s_law_members) (fnScope s_law_members) .none kV doc pm an cdv ct) ⟨us, []⟩ = pure ((["_law_firsts", "_law_end", "_law_most"] : List Str).zip us) :=
  match us, hl with
  | [_, _, _], _ => rfl
theorem b_law_falling (kV doc pm : Value) (an : Option Addr) (cdv ct : Value) (us : List Value) (hl : us.length = (["_law_deal", "_law_most"] : List Str).length) : bindArgs (PySem.W.fnOf "_law_falling" "_law_falling" (fnArgs s_law_falling) (fnBody s_law_falling) (fnScope s_law_falling) .none kV doc pm an cdv ct) ⟨us, []⟩ = pure ((["_law_deal", "_law_most"] : List Str).zip us) :=
  match us, hl with
  | [_, _], _ => rfl
theorem b_law_columns (kV doc pm : Value) (an : Option Addr) (cdv ct : Value) (us : List Value) (hl : us.length = (["_law_many", "_law_deal", "_law_form"] : List Str).length) : bindArgs (PySem.W.fnOf "_law_columns" "_law_columns" (fnArgs s_law_columns) (fnBody s_law_columns) (fnScope s_law_columns) .none kV doc pm an cdv ct) ⟨us, []⟩ = pure ((["_law_many", "_law_deal", "_law_form"] : List Str).zip us) :=
  match us, hl with
  | [_, _, _], _ => rfl
theorem b_law_steps (kV doc pm : Value) (an : Option Addr) (cdv ct : Value) (us : List Value) (hl : us.length = (["_law_some"] : List Str).length) : bindArgs (PySem.W.fnOf "_law_steps" "_law_steps" (fnArgs s_law_steps) (fnBody s_law_steps) (fnScope s_law_steps) .none kV doc pm an cdv ct) ⟨us, []⟩ = pure ((["_law_some"] : List Str).zip us) :=
  match us, hl with
  | [_], _ => rfl
theorem b_law_done (kV doc pm : Value) (an : Option Addr) (cdv ct : Value) (us : List Value) (hl : us.length = (["_law_some", "_law_row"] : List Str).length) : bindArgs (PySem.W.fnOf "_law_done" "_law_done" (fnArgs s_law_done) (fnBody s_law_done) (fnScope s_law_done) .none kV doc pm an cdv ct) ⟨us, []⟩ = pure ((["_law_some", "_law_row"] : List Str).zip us) :=
  match us, hl with
  | [_, _], _ => rfl
theorem b_law_machine (kV doc pm : Value) (an : Option Addr) (cdv ct : Value) (us : List Value) (hl : us.length = (["_law_deal", "_law_most"] : List Str).length) : bindArgs (PySem.W.fnOf "_law_machine" "_law_machine" (fnArgs s_law_machine) (fnBody s_law_machine) (fnScope s_law_machine) .none kV doc pm an cdv ct) ⟨us, []⟩ = pure ((["_law_deal", "_law_most"] : List Str).zip us) :=
  match us, hl with
  | [_, _], _ => rfl
theorem b_law_comes (kV doc pm : Value) (an : Option Addr) (cdv ct : Value) (us : List Value) (hl : us.length = (["_law_found", "_law_n"] : List Str).length) : bindArgs (PySem.W.fnOf "_law_comes" "_law_comes" (fnArgs s_law_comes) (fnBody s_law_comes) (fnScope s_law_comes) .none kV doc pm an cdv ct) ⟨us, []⟩ = pure ((["_law_found", "_law_n"] : List Str).zip us) :=
  match us, hl with
  | [_, _], _ => rfl
theorem b_law_close (kV doc pm : Value) (an : Option Addr) (cdv ct : Value) (us : List Value) (hl : us.length = (["_law_counts", "_law_most"] : List Str).length) : bindArgs (PySem.W.fnOf "_law_close" "_law_close" (fnArgs s_law_close) (fnBody s_law_close) (fnScope s_law_close) .none kV doc pm an cdv ct) ⟨us, []⟩ = pure ((["_law_counts", "_law_most"] : List Str).zip us) :=
  match us, hl with
  | [_, _], _ => rfl
theorem b_law_walked (kV doc pm : Value) (an : Option Addr) (cdv ct : Value) (us : List Value) (hl : us.length = (["_law_counts", "_law_count", "_law_value"] : List Str).length) : bindArgs (PySem.W.fnOf "_law_walked" "_law_walked" (fnArgs s_law_walked) (fnBody s_law_walked) (fnScope s_law_walked) .none kV doc pm an cdv ct) ⟨us, []⟩ = pure ((["_law_counts", "_law_count", "_law_value"] : List Str).zip us) :=
  match us, hl with
  | [_, _, _], _ => rfl
theorem b_law_parts (kV doc pm : Value) (an : Option Addr) (cdv ct : Value) (us : List Value) (hl : us.length = (["_law_machine_here", "_law_counts", "_law_count"] : List Str).length) : bindArgs (PySem.W.fnOf "_law_parts" "_law_parts" (fnArgs s_law_parts) (fnBody s_law_parts) (fnScope s_law_parts) .none kV doc pm an cdv ct) ⟨us, []⟩ = pure ((["_law_machine_here", "_law_counts", "_law_count"] : List Str).zip us) :=
  match us, hl with
  | [_, _, _], _ => rfl
theorem b_law_follows_right (kV doc pm : Value) (an : Option Addr) (cdv ct : Value) (us : List Value) (hl : us.length = (["_law_counts", "_law_count", "_law_close_here"] : List Str).length) : bindArgs (PySem.W.fnOf "_law_follows_right" "_law_follows_right" (fnArgs s_law_follows_right) (fnBody s_law_follows_right) (fnScope s_law_follows_right) .none kV doc pm an cdv ct) ⟨us, []⟩ = pure ((["_law_counts", "_law_count", "_law_close_here"] : List Str).zip us) :=
  match us, hl with
  | [_, _, _], _ => rfl
theorem b_law (kV doc pm : Value) (an : Option Addr) (cdv ct : Value) (us : List Value) (hl : us.length = (["_law_script"] : List Str).length) : bindArgs (PySem.W.fnOf "law" "law" (fnArgs s_law) (fnBody s_law) (fnScope s_law) .none kV doc pm an cdv ct) ⟨us, []⟩ = pure ((["_law_script"] : List Str).zip us) :=
  match us, hl with
  | [_], _ => rfl
section
variable {P : Program} {w : World} {K : PySem.W.Frag} {mg : Str → Option Value} {base : Heap}
theorem CalD.at {k : Nat} {x : Str} {st : Stmt} {ps : List Str} {sp : Sp} {f : Addr} {fd : FuncData} (c : CalD P w K mg base k x st ps sp) (D : Def K mg x st f fd) : FnOk P w K mg base C8.CX0 k f fd ps sp := by
  obtain ⟨f2, fd2, D2, _, _, F⟩ := c.ex
  have e := D.mgf.symm.trans D2.mgf
  cases e
  obtain ⟨_, _, _, _, _, _, _, _, _, _, _, l1, _⟩ := D.fn.ex
  obtain ⟨_, _, _, _, _, _, _, _, _, _, _, l2, _⟩ := D2.fn.ex
  have e2 := l1.symm.trans l2
  have e3 : fd = fd2 := by
    injection e2 with e2
    injection e2 with _ _ e2 _
    injection e2
  rw [e3]
  exact F
theorem chain {CM CB CR : Addr} (Z : Zb mg) (T : Mx K mg CM) (B : Bx K mg CB) (R : Rx P w K mg base CR) (hIs : InsC K CM)
    (d_is_integer : DefB K mg "is_integer" s_is_integer ["value"])
    (d_is_number : DefB K mg "is_number" s_is_number ["value"])
    (d_is_index : DefB K mg "is_index" s_is_index ["value", "many"])
    (d_is_sequence : DefB K mg "is_sequence" s_is_sequence ["value"])
    (d_common_divisor : DefB K mg "common_divisor" s_common_divisor ["one", "other"])
    (d_common_multiple : DefB K mg "common_multiple" s_common_multiple ["one", "other"])
    (d_idle : DefB K mg "idle" s_idle ["states"])
    (d_after : DefB K mg "after" s_after ["one", "other"])
    (d_raised : DefB K mg "raised" s_raised ["change", "count"])
    (d_Machine_does : MetB K CM "does" "Machine.does" s_Machine_does ["self", "command"])
    (d_Machine_init : MakB K mg "Machine" "Machine.__init__" CM s_Machine_init ["self", "commands", "steps"])
    (d_tail_and_ring : DefB K mg "tail_and_ring" s_tail_and_ring ["change"])
    (d_checked_row : DefB K mg "checked_row" s_checked_row ["machine", "value"])
    (d_change_of : DefB K mg "change_of" s_change_of ["machine", "row"])
    (d_reach_of : DefB K mg "reach_of" s_reach_of ["first", "second"])
    (d_both_rings : DefB K mg "both_rings" s_both_rings ["first", "second"])
    (d_from_on : DefB K mg "from_on" s_from_on ["number", "least"])
    (d_agree : DefB K mg "agree" s_agree ["first", "second", "count"])
    (d_primes_of : DefB K mg "primes_of" s_primes_of ["number"])
    (d_end_of : DefB K mg "end_of" s_end_of ["first", "second"])
    (d_near_counts : DefB K mg "near_counts" s_near_counts ["first", "second"])
    (d_runs_of : DefB K mg "runs_of" s_runs_of ["counts", "end"])
    (d_is_run : DefB K mg "is_run" s_is_run ["value"])
    (d_is_within : DefB K mg "is_within" s_is_within ["runs", "end", "count"])
    (d_is_falling : DefB K mg "is_falling" s_is_falling ["value"])
    (d_checked_falling : DefB K mg "checked_falling" s_checked_falling ["value"])
    (d_has : DefB K mg "has" s_has ["falling", "count"])
    (d_falling_of : DefB K mg "falling_of" s_falling_of ["first", "second"])
    (d_agreeing : DefB K mg "agreeing" s_agreeing ["machine", "one", "other"])
    (d_checked_counts : DefB K mg "checked_counts" s_checked_counts ["value"])
    (d_closing : DefB K mg "closing" s_closing ["counts"])
    (d_links_of : DefB K mg "links_of" s_links_of ["counts"])
    (d_nearer : DefB K mg "nearer" s_nearer ["links", "count"])
    (d_hanging : DefB K mg "hanging" s_hanging ["counts", "count"])
    (d_walk : DefB K mg "walk" s_walk ["counts", "count"])
    (d_checked_mark : DefB K mg "checked_mark" s_checked_mark ["value"])
    (d_mark_for : DefB K mg "mark_for" s_mark_for ["counts", "count"])
    (d_apart : DefB K mg "apart" s_apart [])
    (d_ring_of : DefB K mg "ring_of" s_ring_of ["size"])
    (d_least_power : DefB K mg "least_power" s_least_power ["links", "count"])
    (d_marked_machine : DefB K mg "marked_machine" s_marked_machine ["mark"])
    (d_machine_against : DefB K mg "machine_against" s_machine_against ["counts", "count"])
    (d_Bench_init : MakB K mg "Bench" "Bench.__init__" CB s_Bench_init ["self", "machine"])
    (d_Bench_program : MetB K CB "program" "Bench.program" s_Bench_program ["self"])
    (d_Bench_turn : MetB K CB "turn" "Bench.turn" s_Bench_turn ["self", "program"])
    (d_Bench_put : MetB K CB "put" "Bench.put" s_Bench_put ["self", "at", "count", "row"])
    (d_Bench_could : MetB K CB "could" "Bench.could" s_Bench_could ["self", "at", "row"])
    (d_Bench_exchange : MetB K CB "exchange" "Bench.exchange" s_Bench_exchange ["self", "at", "row"])
    (d_law_let : DefB K mg "_law_let" s_law_let ["_law_bench", "_law_count", "_law_one", "_law_other"])
    (d_law_draw : DefB K mg "_law_draw" s_law_draw ["_law_script", "_law_salt"])
    (d_law_any : DefB K mg "_law_any" s_law_any ["_law_deal", "_law_bound"])
    (d_law_of : DefB K mg "_law_of" s_law_of ["_law_deal", "_law_some"])
    (d_law_mixed : DefB K mg "_law_mixed" s_law_mixed ["_law_deal", "_law_some"])
    (d_law_then : DefB K mg "_law_then" s_law_then ["_law_one", "_law_other"])
    (d_law_place : DefB K mg "_law_place" s_law_place ["_law_many", "_law_s", "_law_q", "_law_r", "_law_side"])
    (d_law_power : DefB K mg "_law_power" s_law_power ["_law_one", "_law_count"])
    (d_law_two : DefB K mg "_law_two" s_law_two ["_law_firsts", "_law_end"])
    (d_law_members : DefB K mg "_law_members" s_law_members ["_law_firsts", "_law_end", "_law_most"])
    (d_law_falling : DefB K mg "_law_falling" s_law_falling ["_law_deal", "_law_most"])
    (d_law_columns : DefB K mg "_law_columns" s_law_columns ["_law_many", "_law_deal", "_law_form"])
    (d_law_steps : DefB K mg "_law_steps" s_law_steps ["_law_some"])
    (d_law_done : DefB K mg "_law_done" s_law_done ["_law_some", "_law_row"])
    (d_law_machine : DefB K mg "_law_machine" s_law_machine ["_law_deal", "_law_most"])
    (d_law_comes : DefB K mg "_law_comes" s_law_comes ["_law_found", "_law_n"])
    (d_law_close : DefB K mg "_law_close" s_law_close ["_law_counts", "_law_most"])
    (d_law_walked : DefB K mg "_law_walked" s_law_walked ["_law_counts", "_law_count", "_law_value"])
    (d_law_parts : DefB K mg "_law_parts" s_law_parts ["_law_machine_here", "_law_counts", "_law_count"])
    (d_law_follows_right : DefB K mg "_law_follows_right" s_law_follows_right ["_law_counts", "_law_count", "_law_close_here"])
    (d_law : DefB K mg "law" s_law ["_law_script"])
    : CalD P w K mg base 9 "law" s_law ["_law_script"] (spLaw K) := by
  have c_is_integer := Bf.c_is_integer (P := P) (w := w) (K := K) (mg := mg) (base := base) (d := d_is_integer)  (Z := Z)
  have c_is_number := Bf.c_is_number (P := P) (w := w) (K := K) (mg := mg) (base := base) (d := d_is_number)  (Z := Z) (c_is_integer := c_is_integer)
  have c_is_index := Bf.c_is_index (P := P) (w := w) (K := K) (mg := mg) (base := base) (d := d_is_index)  (Z := Z) (c_is_number := c_is_number)
  have c_is_sequence := Bf.c_is_sequence (P := P) (w := w) (K := K) (mg := mg) (base := base) (d := d_is_sequence)  (Z := Z)
  have c_common_divisor := Bf.c_common_divisor (P := P) (w := w) (K := K) (mg := mg) (base := base) (d := d_common_divisor)  (Z := Z)
  have c_common_multiple := Bf.c_common_multiple (P := P) (w := w) (K := K) (mg := mg) (base := base) (d := d_common_multiple)  (Z := Z) (c_common_divisor := c_common_divisor)
  have c_idle := Bf.c_idle (P := P) (w := w) (K := K) (mg := mg) (base := base) (d := d_idle)  (Z := Z)
  have c_after := Bf.c_after (P := P) (w := w) (K := K) (mg := mg) (base := base) (d := d_after)  (Z := Z)
  have c_raised := Bf.c_raised (P := P) (w := w) (K := K) (mg := mg) (base := base) (d := d_raised)  (Z := Z) (c_idle := c_idle) (c_after := c_after)
  have c_Machine_does := Bf.c_Machine_does (P := P) (w := w) (K := K) (mg := mg) (base := base) (d := d_Machine_does) (CM := CM) (T := T) (Z := Z)
  have c_Machine_init := Bf.c_Machine_init (P := P) (w := w) (K := K) (mg := mg) (base := base) (d := d_Machine_init) (CM := CM) (T := T) (Z := Z) (c_is_number := c_is_number) (c_is_index := c_is_index) (c_is_sequence := c_is_sequence)
  have c_tail_and_ring := Bf.c_tail_and_ring (P := P) (w := w) (K := K) (mg := mg) (base := base) (d := d_tail_and_ring)  (Z := Z) (c_common_multiple := c_common_multiple)
  have c_checked_row := Bf.c_checked_row (P := P) (w := w) (K := K) (mg := mg) (base := base) (d := d_checked_row) (CM := CM) (T := T) (Z := Z) (c_is_index := c_is_index) (c_is_sequence := c_is_sequence)
  have c_change_of := Bf.c_change_of (P := P) (w := w) (K := K) (mg := mg) (base := base) (d := d_change_of) (CM := CM) (T := T) (Z := Z) (c_idle := c_idle) (c_after := c_after) (c_checked_row := c_checked_row) (c_Machine_does := c_Machine_does)
  have c_reach_of := Bf.c_reach_of (P := P) (w := w) (K := K) (mg := mg) (base := base) (d := d_reach_of)  (Z := Z) (c_tail_and_ring := c_tail_and_ring)
  have c_both_rings := Bf.c_both_rings (P := P) (w := w) (K := K) (mg := mg) (base := base) (d := d_both_rings)  (Z := Z) (c_common_multiple := c_common_multiple) (c_tail_and_ring := c_tail_and_ring)
  have c_from_on := Bf.c_from_on (P := P) (w := w) (K := K) (mg := mg) (base := base) (d := d_from_on)  (Z := Z)
  have c_agree := Bf.c_agree (P := P) (w := w) (K := K) (mg := mg) (base := base) (d := d_agree)  (Z := Z) (c_raised := c_raised)
  have c_primes_of := Bf.c_primes_of (P := P) (w := w) (K := K) (mg := mg) (base := base) (d := d_primes_of)  (Z := Z)
  have c_end_of := Bf.c_end_of (P := P) (w := w) (K := K) (mg := mg) (base := base) (d := d_end_of)  (Z := Z) (c_both_rings := c_both_rings) (c_reach_of := c_reach_of) (c_from_on := c_from_on) (c_agree := c_agree) (c_primes_of := c_primes_of)
  have c_near_counts := Bf.c_near_counts (P := P) (w := w) (K := K) (mg := mg) (base := base) (d := d_near_counts)  (Z := Z) (c_reach_of := c_reach_of) (c_idle := c_idle) (c_after := c_after)
  have c_runs_of := Bf.c_runs_of (P := P) (w := w) (K := K) (mg := mg) (base := base) (d := d_runs_of)  (Z := Z)
  have c_is_run := Bf.c_is_run (P := P) (w := w) (K := K) (mg := mg) (base := base) (d := d_is_run)  (Z := Z) (c_is_number := c_is_number)
  have c_is_within := Bf.c_is_within (P := P) (w := w) (K := K) (mg := mg) (base := base) (d := d_is_within)  (Z := Z)
  have c_is_falling := Bf.c_is_falling (P := P) (w := w) (K := K) (mg := mg) (base := base) (d := d_is_falling)  (Z := Z) (c_is_number := c_is_number) (c_is_run := c_is_run) (c_is_within := c_is_within)
  have c_checked_falling := Bf.c_checked_falling (P := P) (w := w) (K := K) (mg := mg) (base := base) (d := d_checked_falling)  (Z := Z) (c_is_falling := c_is_falling)
  have c_has := Bf.c_has (P := P) (w := w) (K := K) (mg := mg) (base := base) (d := d_has)  (Z := Z) (c_checked_falling := c_checked_falling) (c_is_within := c_is_within)
  have c_falling_of := Bf.c_falling_of (P := P) (w := w) (K := K) (mg := mg) (base := base) (d := d_falling_of)  (Z := Z) (c_end_of := c_end_of) (c_reach_of := c_reach_of) (c_from_on := c_from_on) (c_near_counts := c_near_counts) (c_runs_of := c_runs_of)
  have D_agreeing := Bf.c_agreeing (P := P) (w := w) (K := K) (mg := mg) (base := base) (d := d_agreeing) (CM := CM) (T := T) (Z := Z) (c_change_of := c_change_of) (c_falling_of := c_falling_of)
  have c_checked_counts := Bf.c_checked_counts (P := P) (w := w) (K := K) (mg := mg) (base := base) (d := d_checked_counts)  (Z := Z) (c_is_number := c_is_number) (c_is_sequence := c_is_sequence)
  have c_closing := Bf.c_closing (P := P) (w := w) (K := K) (mg := mg) (base := base) (d := d_closing)  (Z := Z) (c_checked_counts := c_checked_counts)
  have c_links_of := Bf.c_links_of (P := P) (w := w) (K := K) (mg := mg) (base := base) (d := d_links_of)  (Z := Z) (c_checked_counts := c_checked_counts)
  have c_nearer := Bf.c_nearer (P := P) (w := w) (K := K) (mg := mg) (base := base) (d := d_nearer)  (Z := Z)
  have c_hanging := Bf.c_hanging (P := P) (w := w) (K := K) (mg := mg) (base := base) (d := d_hanging)  (Z := Z) (c_links_of := c_links_of) (c_nearer := c_nearer)
  have D_walk := Bf.c_walk (P := P) (w := w) (K := K) (mg := mg) (base := base) (d := d_walk)  (Z := Z) (c_links_of := c_links_of) (c_nearer := c_nearer)
  have c_checked_mark := Bf.c_checked_mark (P := P) (w := w) (K := K) (mg := mg) (base := base) (d := d_checked_mark)  (Z := Z) (c_is_number := c_is_number)
  have c_mark_for := Bf.c_mark_for (P := P) (w := w) (K := K) (mg := mg) (base := base) (d := d_mark_for)  (Z := Z) (c_hanging := c_hanging)
  have c_apart := Bf.c_apart (P := P) (w := w) (K := K) (mg := mg) (base := base) (d := d_apart) (CM := CM) (T := T) (Z := Z) (c_Machine_init := c_Machine_init)
  have c_ring_of := Bf.c_ring_of (P := P) (w := w) (K := K) (mg := mg) (base := base) (d := d_ring_of) (CM := CM) (T := T) (Z := Z) (c_Machine_init := c_Machine_init)
  have c_least_power := Bf.c_least_power (P := P) (w := w) (K := K) (mg := mg) (base := base) (d := d_least_power)  (Z := Z) (c_primes_of := c_primes_of)
  have c_marked_machine := Bf.c_marked_machine (P := P) (w := w) (K := K) (mg := mg) (base := base) (d := d_marked_machine) (CM := CM) (T := T) (Z := Z) (c_Machine_init := c_Machine_init) (c_checked_mark := c_checked_mark)
  have D_machine_against := Bf.c_machine_against (P := P) (w := w) (K := K) (mg := mg) (base := base) (d := d_machine_against) (CM := CM) (T := T) (Z := Z) (c_links_of := c_links_of) (c_mark_for := c_mark_for) (c_apart := c_apart) (c_least_power := c_least_power) (c_ring_of := c_ring_of) (c_marked_machine := c_marked_machine)
  have c_Bench_init := Bf.c_Bench_init (P := P) (w := w) (K := K) (mg := mg) (base := base) (d := d_Bench_init) (CM := CM) (CB := CB) (T := T) (B := B) (hIs := hIs) (Z := Z)
  have c_Bench_program := Bf.c_Bench_program (P := P) (w := w) (K := K) (mg := mg) (base := base) (d := d_Bench_program) (CM := CM) (CB := CB) (B := B) (Z := Z)
  have c_Bench_turn := Bf.c_Bench_turn (P := P) (w := w) (K := K) (mg := mg) (base := base) (d := d_Bench_turn) (CM := CM) (CB := CB) (B := B) (Z := Z)
  have c_Bench_put := Bf.c_Bench_put (P := P) (w := w) (K := K) (mg := mg) (base := base) (d := d_Bench_put) (CM := CM) (CB := CB) (T := T) (B := B) (Z := Z) (c_is_index := c_is_index) (c_is_number := c_is_number) (c_checked_row := c_checked_row) (c_Bench_turn := c_Bench_turn)
  have c_Bench_could := Bf.c_Bench_could (P := P) (w := w) (K := K) (mg := mg) (base := base) (d := d_Bench_could) (CM := CM) (CB := CB) (T := T) (B := B) (Z := Z) (c_is_index := c_is_index) (c_change_of := c_change_of) (c_raised := c_raised)
  have c_Bench_exchange := Bf.c_Bench_exchange (P := P) (w := w) (K := K) (mg := mg) (base := base) (d := d_Bench_exchange) (CM := CM) (CB := CB) (CR := CR) (T := T) (B := B) (R := R) (Z := Z) (c_Bench_could := c_Bench_could) (c_Bench_turn := c_Bench_turn)
  have c_law_let := Bf.c_law_let (P := P) (w := w) (K := K) (mg := mg) (base := base) (d := d_law_let) (CM := CM) (CB := CB) (CR := CR) (T := T) (B := B) (R := R) (Z := Z) (c_Bench_put := c_Bench_put) (c_Bench_exchange := c_Bench_exchange) (c_Bench_program := c_Bench_program)
  have c_law_draw := Bf.c_law_draw (P := P) (w := w) (K := K) (mg := mg) (base := base) (d := d_law_draw)  (Z := Z)
  have c_law_any := Bf.c_law_any (P := P) (w := w) (K := K) (mg := mg) (base := base) (d := d_law_any)  (Z := Z)
  have c_law_of := Bf.c_law_of (P := P) (w := w) (K := K) (mg := mg) (base := base) (d := d_law_of)  (Z := Z) (c_law_any := c_law_any)
  have c_law_mixed := Bf.c_law_mixed (P := P) (w := w) (K := K) (mg := mg) (base := base) (d := d_law_mixed)  (Z := Z) (c_law_any := c_law_any)
  have c_law_then := Bf.c_law_then (P := P) (w := w) (K := K) (mg := mg) (base := base) (d := d_law_then)  (Z := Z)
  have c_law_place := Bf.c_law_place (P := P) (w := w) (K := K) (mg := mg) (base := base) (d := d_law_place)  (Z := Z)
  have c_law_power := Bf.c_law_power (P := P) (w := w) (K := K) (mg := mg) (base := base) (d := d_law_power)  (Z := Z)
  have c_law_two := Bf.c_law_two (P := P) (w := w) (K := K) (mg := mg) (base := base) (d := d_law_two)  (Z := Z) (c_law_power := c_law_power) (c_law_place := c_law_place)
  have c_law_members := Bf.c_law_members (P := P) (w := w) (K := K) (mg := mg) (base := base) (d := d_law_members)  (Z := Z)
  have c_law_falling := Bf.c_law_falling (P := P) (w := w) (K := K) (mg := mg) (base := base) (d := d_law_falling)  (Z := Z) (c_law_any := c_law_any) (c_law_of := c_law_of) (c_law_members := c_law_members)
  have c_law_columns := Bf.c_law_columns (P := P) (w := w) (K := K) (mg := mg) (base := base) (d := d_law_columns)  (Z := Z) (c_law_any := c_law_any) (c_law_mixed := c_law_mixed)
  have c_law_steps := Bf.c_law_steps (P := P) (w := w) (K := K) (mg := mg) (base := base) (d := d_law_steps)  (Z := Z)
  have c_law_done := Bf.c_law_done (P := P) (w := w) (K := K) (mg := mg) (base := base) (d := d_law_done)  (Z := Z) (c_law_then := c_law_then)
  have c_law_machine := Bf.c_law_machine (P := P) (w := w) (K := K) (mg := mg) (base := base) (d := d_law_machine)  (Z := Z) (c_law_any := c_law_any) (c_law_columns := c_law_columns) (c_law_falling := c_law_falling) (c_law_mixed := c_law_mixed) (c_law_two := c_law_two)
  have c_law_comes := Bf.c_law_comes (P := P) (w := w) (K := K) (mg := mg) (base := base) (d := d_law_comes)  (Z := Z)
  have c_law_close := Bf.c_law_close (P := P) (w := w) (K := K) (mg := mg) (base := base) (d := d_law_close)  (Z := Z) (c_law_comes := c_law_comes)
  have c_law_walked := Bf.c_law_walked (P := P) (w := w) (K := K) (mg := mg) (base := base) (d := d_law_walked)  (Z := Z)
  have c_law_parts := Bf.c_law_parts (P := P) (w := w) (K := K) (mg := mg) (base := base) (d := d_law_parts) (CM := CM) (T := T) (Z := Z) (c_law_power := c_law_power)
  have c_law_follows_right := Bf.c_law_follows_right (P := P) (w := w) (K := K) (mg := mg) (base := base) (d := d_law_follows_right) (CM := CM) (T := T) (Z := Z) (c_law_parts := c_law_parts) (c_law_walked := c_law_walked) (D_machine_against := D_machine_against) (D_walk := D_walk)
  have D_law := Bf.c_law (P := P) (w := w) (K := K) (mg := mg) (base := base) (d := d_law) (CM := CM) (CB := CB) (CR := CR) (T := T) (Z := Z) (c_law_draw := c_law_draw) (c_law_machine := c_law_machine) (c_Machine_init := c_Machine_init) (c_law_steps := c_law_steps) (c_law_any := c_law_any) (c_law_done := c_law_done) (c_law_then := c_law_then) (D_agreeing := D_agreeing) (c_has := c_has) (c_law_power := c_law_power) (c_law_close := c_law_close) (c_closing := c_closing) (c_law_follows_right := c_law_follows_right) (c_law_let := c_law_let) (c_Bench_init := c_Bench_init)
  exact D_law
theorem all_mk {h : Heap} {fa CM CB CR : Addr} (X : K.In h) (G : h.Ns mainGlobals mg) (hfa : mg "law" = some (.ref fa))
    (aM : PySem.W.nsIn K mainGlobals "Machine" = some (some (.ref CM))) (aB : PySem.W.nsIn K mainGlobals "Bench" = some (some (.ref CB))) (aR : PySem.W.nsIn K mainGlobals "Refused" = some (some (.ref CR)))
    (Z : Zb mg) (T1 : Cls K CM) (T2 : PySem.W.findIn K (.ref CM) "commands" = some none) (T3 : PySem.W.findIn K (.ref CM) "states" = some none) (T4 : PySem.W.findIn K (.ref CM) "steps" = some none) (T5 : PySem.W.findIn K (.ref CM) "_found" = some none)
    (B1 : Cls K CB) (B2 : PySem.W.findIn K (.ref CB) "machine" = some none) (B3 : PySem.W.findIn K (.ref CB) "_program" = some none) (B4 : PySem.W.findIn K (.ref CB) "_past" = some none)
    (R : mg "Refused" = some (.ref CR) → ∀ base : Heap, Rx P w K mg base CR) (hIs : InsC K CM)
    (d_is_integer : DefB K mg "is_integer" s_is_integer ["value"])
    (d_is_number : DefB K mg "is_number" s_is_number ["value"])
    (d_is_index : DefB K mg "is_index" s_is_index ["value", "many"])
    (d_is_sequence : DefB K mg "is_sequence" s_is_sequence ["value"])
    (d_common_divisor : DefB K mg "common_divisor" s_common_divisor ["one", "other"])
    (d_common_multiple : DefB K mg "common_multiple" s_common_multiple ["one", "other"])
    (d_idle : DefB K mg "idle" s_idle ["states"])
    (d_after : DefB K mg "after" s_after ["one", "other"])
    (d_raised : DefB K mg "raised" s_raised ["change", "count"])
    (d_Machine_does : MetB K CM "does" "Machine.does" s_Machine_does ["self", "command"])
    (d_Machine_init : mg "Machine" = some (.ref CM) → MakB K mg "Machine" "Machine.__init__" CM s_Machine_init ["self", "commands", "steps"])
    (d_tail_and_ring : DefB K mg "tail_and_ring" s_tail_and_ring ["change"])
    (d_checked_row : DefB K mg "checked_row" s_checked_row ["machine", "value"])
    (d_change_of : DefB K mg "change_of" s_change_of ["machine", "row"])
    (d_reach_of : DefB K mg "reach_of" s_reach_of ["first", "second"])
    (d_both_rings : DefB K mg "both_rings" s_both_rings ["first", "second"])
    (d_from_on : DefB K mg "from_on" s_from_on ["number", "least"])
    (d_agree : DefB K mg "agree" s_agree ["first", "second", "count"])
    (d_primes_of : DefB K mg "primes_of" s_primes_of ["number"])
    (d_end_of : DefB K mg "end_of" s_end_of ["first", "second"])
    (d_near_counts : DefB K mg "near_counts" s_near_counts ["first", "second"])
    (d_runs_of : DefB K mg "runs_of" s_runs_of ["counts", "end"])
    (d_is_run : DefB K mg "is_run" s_is_run ["value"])
    (d_is_within : DefB K mg "is_within" s_is_within ["runs", "end", "count"])
    (d_is_falling : DefB K mg "is_falling" s_is_falling ["value"])
    (d_checked_falling : DefB K mg "checked_falling" s_checked_falling ["value"])
    (d_has : DefB K mg "has" s_has ["falling", "count"])
    (d_falling_of : DefB K mg "falling_of" s_falling_of ["first", "second"])
    (d_agreeing : DefB K mg "agreeing" s_agreeing ["machine", "one", "other"])
    (d_checked_counts : DefB K mg "checked_counts" s_checked_counts ["value"])
    (d_closing : DefB K mg "closing" s_closing ["counts"])
    (d_links_of : DefB K mg "links_of" s_links_of ["counts"])
    (d_nearer : DefB K mg "nearer" s_nearer ["links", "count"])
    (d_hanging : DefB K mg "hanging" s_hanging ["counts", "count"])
    (d_walk : DefB K mg "walk" s_walk ["counts", "count"])
    (d_checked_mark : DefB K mg "checked_mark" s_checked_mark ["value"])
    (d_mark_for : DefB K mg "mark_for" s_mark_for ["counts", "count"])
    (d_apart : DefB K mg "apart" s_apart [])
    (d_ring_of : DefB K mg "ring_of" s_ring_of ["size"])
    (d_least_power : DefB K mg "least_power" s_least_power ["links", "count"])
    (d_marked_machine : DefB K mg "marked_machine" s_marked_machine ["mark"])
    (d_machine_against : DefB K mg "machine_against" s_machine_against ["counts", "count"])
    (d_Bench_init : mg "Bench" = some (.ref CB) → MakB K mg "Bench" "Bench.__init__" CB s_Bench_init ["self", "machine"])
    (d_Bench_program : MetB K CB "program" "Bench.program" s_Bench_program ["self"])
    (d_Bench_turn : MetB K CB "turn" "Bench.turn" s_Bench_turn ["self", "program"])
    (d_Bench_put : MetB K CB "put" "Bench.put" s_Bench_put ["self", "at", "count", "row"])
    (d_Bench_could : MetB K CB "could" "Bench.could" s_Bench_could ["self", "at", "row"])
    (d_Bench_exchange : MetB K CB "exchange" "Bench.exchange" s_Bench_exchange ["self", "at", "row"])
    (d_law_let : DefB K mg "_law_let" s_law_let ["_law_bench", "_law_count", "_law_one", "_law_other"])
    (d_law_draw : DefB K mg "_law_draw" s_law_draw ["_law_script", "_law_salt"])
    (d_law_any : DefB K mg "_law_any" s_law_any ["_law_deal", "_law_bound"])
    (d_law_of : DefB K mg "_law_of" s_law_of ["_law_deal", "_law_some"])
    (d_law_mixed : DefB K mg "_law_mixed" s_law_mixed ["_law_deal", "_law_some"])
    (d_law_then : DefB K mg "_law_then" s_law_then ["_law_one", "_law_other"])
    (d_law_place : DefB K mg "_law_place" s_law_place ["_law_many", "_law_s", "_law_q", "_law_r", "_law_side"])
    (d_law_power : DefB K mg "_law_power" s_law_power ["_law_one", "_law_count"])
    (d_law_two : DefB K mg "_law_two" s_law_two ["_law_firsts", "_law_end"])
    (d_law_members : DefB K mg "_law_members" s_law_members ["_law_firsts", "_law_end", "_law_most"])
    (d_law_falling : DefB K mg "_law_falling" s_law_falling ["_law_deal", "_law_most"])
    (d_law_columns : DefB K mg "_law_columns" s_law_columns ["_law_many", "_law_deal", "_law_form"])
    (d_law_steps : DefB K mg "_law_steps" s_law_steps ["_law_some"])
    (d_law_done : DefB K mg "_law_done" s_law_done ["_law_some", "_law_row"])
    (d_law_machine : DefB K mg "_law_machine" s_law_machine ["_law_deal", "_law_most"])
    (d_law_comes : DefB K mg "_law_comes" s_law_comes ["_law_found", "_law_n"])
    (d_law_close : DefB K mg "_law_close" s_law_close ["_law_counts", "_law_most"])
    (d_law_walked : DefB K mg "_law_walked" s_law_walked ["_law_counts", "_law_count", "_law_value"])
    (d_law_parts : DefB K mg "_law_parts" s_law_parts ["_law_machine_here", "_law_counts", "_law_count"])
    (d_law_follows_right : DefB K mg "_law_follows_right" s_law_follows_right ["_law_counts", "_law_count", "_law_close_here"])
    (d_law : DefB K mg "law" s_law ["_law_script"])
    : ∃ fd : FuncData, (∀ (s : Shared) (v : Value), BindsTo s fd ⟨[v], []⟩ [("_law_script", v)]) ∧ ∀ base : Heap, K.In base → base.Ns mainGlobals mg → FnOk P w K mg base C8.CX0 9 fa fd ["_law_script"] (spLaw K) := by
  have gM := PySem.W.mg_of X G aM
  have gB := PySem.W.mg_of X G aB
  have gR := PySem.W.mg_of X G aR
  have T : Mx K mg CM := ⟨T1, T2, T3, T4, T5, gM⟩
  have B : Bx K mg CB := ⟨B1, B2, B3, B4⟩
  obtain ⟨f, fd, D, b, df⟩ := d_law.ex
  have e := hfa.symm.trans D.mgf
  cases e
  refine ⟨fd, fun s v => ?_, fun base _ _ => ?_⟩
  · obtain ⟨oc, od, dV, kV, doc, pm, an, cdv, ct, osl, rfl, _, _⟩ := D.fn.ex
    obtain rfl : dV = .none := df
    exact .of_eq (b_law kV doc pm an cdv ct [v] rfl)
  · exact CalD.at (chain Z T B (R gR base) hIs d_is_integer d_is_number d_is_index d_is_sequence d_common_divisor d_common_multiple d_idle d_after d_raised d_Machine_does (d_Machine_init gM) d_tail_and_ring d_checked_row d_change_of d_reach_of d_both_rings d_from_on d_agree d_primes_of d_end_of d_near_counts d_runs_of d_is_run d_is_within d_is_falling d_checked_falling d_has d_falling_of d_agreeing d_checked_counts d_closing d_links_of d_nearer d_hanging d_walk d_checked_mark d_mark_for d_apart d_ring_of d_least_power d_marked_machine d_machine_against (d_Bench_init gB) d_Bench_program d_Bench_turn d_Bench_put d_Bench_could d_Bench_exchange d_law_let d_law_draw d_law_any d_law_of d_law_mixed d_law_then d_law_place d_law_power d_law_two d_law_members d_law_falling d_law_columns d_law_steps d_law_done d_law_machine d_law_comes d_law_close d_law_walked d_law_parts d_law_follows_right d_law) D
theorem walk {l : PySem.W.OpenLaw} {q : Program} {loose : List Str} {XP : (Str → Option Value) → Heap → Prop} {YP : World → Heap → Prop} {d : DefRec} {K : Params → PySem.W.Frag} (hn : l.most = some 63) (hdf : d.params.defaults = [])
    (hY : ∀ (w : World) (h : Heap), YP w h → (K w.params).In h)
    (F : ∀ (w : World) (mg : Str → Option Value) (fa : Addr) (h : Heap), (K w.params).In h → h.Ns mainGlobals mg → mg d.name = some (.ref fa) →
      ∃ fd : FuncData, (∀ (s : Shared) (u : Value), BindsTo s fd ⟨[u], []⟩ [("_law_script", u)]) ∧ ∀ base : Heap, (K w.params).In base → base.Ns mainGlobals mg → FnOk l.prog w (K w.params) mg base C8.CX0 9 fa fd ["_law_script"] (spLaw (K w.params))) :
    PySem.W.WalkO q loose XP YP l.row.toRowW d [] (fun f vs => PySem.call f vs) :=
  L2.walk_of (n := 63) (k := 9) (x := "_law_script") (CX := fun _ => C8.CX0) (sp := fun w => spLaw (K w.params)) hn (by decide) hdf ⟨rfl, by decide, by decide⟩ hY F (fun _ _ a ns hl _ hS => ⟨a, ns, rfl, hS, hl, fun _ => rfl⟩) fun _ _ _ _ _ z => z
end
end Bf
open PySem PySem.W PyProof.Rows
set_option maxRecDepth 100000 in
set_option maxHeartbeats 0 in
theorem PySem.Challenge.cw_bodyforbody_k51_whole_agreeing_counts_ar_holds : PySem.Challenge.rw_bodyforbody_k51_whole_agreeing_counts_ar.Holds := by
  w_on; o_law; k_head; (case hw => w_witness2)
  k_fill
  refine Bf.walk (l := PySem.Challenge.rw_bodyforbody_k51_whole_agreeing_counts_ar) rfl rfl (fun w h Y => PySem.W.kIn_of Y) ?F
  case F =>
    intro w mg fa h KX G hmg
    refine' Bf.all_mk KX G hmg ?aM ?aB ?aR ?Z ?T1 ?T2 ?T3 ?T4 ?T5 ?B1 ?B2 ?B3 ?B4 ?R ?hIs ?d_is_integer ?d_is_number ?d_is_index ?d_is_sequence ?d_common_divisor ?d_common_multiple ?d_idle ?d_after ?d_raised ?d_Machine_does ?d_Machine_init ?d_tail_and_ring ?d_checked_row ?d_change_of ?d_reach_of ?d_both_rings ?d_from_on ?d_agree ?d_primes_of ?d_end_of ?d_near_counts ?d_runs_of ?d_is_run ?d_is_within ?d_is_falling ?d_checked_falling ?d_has ?d_falling_of ?d_agreeing ?d_checked_counts ?d_closing ?d_links_of ?d_nearer ?d_hanging ?d_walk ?d_checked_mark ?d_mark_for ?d_apart ?d_ring_of ?d_least_power ?d_marked_machine ?d_machine_against ?d_Bench_init ?d_Bench_program ?d_Bench_turn ?d_Bench_put ?d_Bench_could ?d_Bench_exchange ?d_law_let ?d_law_draw ?d_law_any ?d_law_of ?d_law_mixed ?d_law_then ?d_law_place ?d_law_power ?d_law_two ?d_law_members ?d_law_falling ?d_law_columns ?d_law_steps ?d_law_done ?d_law_machine ?d_law_comes ?d_law_close ?d_law_walked ?d_law_parts ?d_law_follows_right ?d_law
    (case aM => k_is); (case aB => k_is); (case aR => k_is)
    (case Z => refine' Bf.zb_mk KX G ?z1 ?z2 ?z3 ?z4 ?z5 ?z6 ?z7 ?z8 ?z9 ?z10 ?z11 ?z12 ?z13 ?z14 ?z15 ?z16; (case z1 => k_is); (case z2 => k_is); (case z3 => k_is); (case z4 => k_is); (case z5 => k_is); (case z6 => k_is); (case z7 => k_is); (case z8 => k_is); (case z9 => k_is); (case z10 => k_is); (case z11 => k_is); (case z12 => k_is); (case z13 => k_is); (case z14 => k_is); (case z15 => k_is); (case z16 => k_is))
    (case T1 => refine' L2.Cls.mk ?pg ?hd ?po ?sa; (case pg => k_is); (case hd => k_is); (case po => k_is); (case sa => k_is))
    (case B1 => refine' L2.Cls.mk ?pg ?hd ?po ?sa; (case pg => k_is); (case hd => k_is); (case po => k_is); (case sa => k_is))
    (case T2 => k_is); (case T3 => k_is); (case T4 => k_is); (case T5 => k_is); (case B2 => k_is); (case B3 => k_is); (case B4 => k_is)
    (case R => intro gR base; refine' Bf.rx_mk KX G gR ?xL ?hbm ?sa ?eC ?tC ?kC ?iC ?sC ?mC ?nA ?sup ?vC ?oq ?ns ?a1 ?t1 ?l1 ?l2 ?c1 ?hv ?hf ?l3 ?tp base; (case xL => k_is); (case hbm => first | rfl | decide +kernel); (case sa => k_is); (case eC => k_is); (case tC => k_is); (case kC => k_is); (case iC => k_is); (case sC => first | k_is | rfl); (case mC => k_is); (case nA => k_is); (case sup => ks_is); (case vC => k_is); (case oq => k_is); (case ns => k_is); (case a1 => k_is); (case t1 => k_is); (case l1 => k_is); (case l2 => k_is); (case c1 => k_is); (case hv => rfl); (case hf => first | rfl | decide +kernel); (case l3 => k_is); (case tp => first | rfl | decide +kernel))
    (case hIs => refine' Bf.insC_mk ?cl ?h1 ?h2 ?h3 ?h4; (case cl => refine' L2.Cls.mk ?pg ?hd ?po ?sa; (case pg => k_is); (case hd => k_is); (case po => k_is); (case sa => k_is)); (case h1 => k_is); (case h2 => k_is); (case h3 => k_is); (case h4 => k_is))
    (case d_is_integer => refine' Bf.defB_mk KX G ?a ?l ?c ?k Bf.b_is_integer; (case a => k_is); (case l => k_is); (case c => k_is); (case k => k_is))
    (case d_is_number => refine' Bf.defB_mk KX G ?a ?l ?c ?k Bf.b_is_number; (case a => k_is); (case l => k_is); (case c => k_is); (case k => k_is))
    (case d_is_index => refine' Bf.defB_mk KX G ?a ?l ?c ?k Bf.b_is_index; (case a => k_is); (case l => k_is); (case c => k_is); (case k => k_is))
    (case d_is_sequence => refine' Bf.defB_mk KX G ?a ?l ?c ?k Bf.b_is_sequence; (case a => k_is); (case l => k_is); (case c => k_is); (case k => k_is))
    (case d_common_divisor => refine' Bf.defB_mk KX G ?a ?l ?c ?k Bf.b_common_divisor; (case a => k_is); (case l => k_is); (case c => k_is); (case k => k_is))
    (case d_common_multiple => refine' Bf.defB_mk KX G ?a ?l ?c ?k Bf.b_common_multiple; (case a => k_is); (case l => k_is); (case c => k_is); (case k => k_is))
    (case d_idle => refine' Bf.defB_mk KX G ?a ?l ?c ?k Bf.b_idle; (case a => k_is); (case l => k_is); (case c => k_is); (case k => k_is))
    (case d_after => refine' Bf.defB_mk KX G ?a ?l ?c ?k Bf.b_after; (case a => k_is); (case l => k_is); (case c => k_is); (case k => k_is))
    (case d_raised => refine' Bf.defB_mk KX G ?a ?l ?c ?k Bf.b_raised; (case a => k_is); (case l => k_is); (case c => k_is); (case k => k_is))
    (case d_Machine_does => refine' Bf.metB_mk ?cl ?a ?i ?l ?c ?k Bf.b_Machine_does; (case cl => refine' L2.Cls.mk ?pg ?hd ?po ?sa; (case pg => k_is); (case hd => k_is); (case po => k_is); (case sa => k_is)); (case a => k_is); (case i => k_is); (case l => k_is); (case c => k_is); (case k => k_is))
    (case d_Machine_init => intro gC; refine' Bf.makB_mk gC ?mk ?kc ?a ?i ?l ?c Bf.b_Machine_init; (case mk => k_is); (case kc => k_is); (case a => k_is); (case i => k_is); (case l => k_is); (case c => k_is))
    (case d_tail_and_ring => refine' Bf.defB_mk KX G ?a ?l ?c ?k Bf.b_tail_and_ring; (case a => k_is); (case l => k_is); (case c => k_is); (case k => k_is))
    (case d_checked_row => refine' Bf.defB_mk KX G ?a ?l ?c ?k Bf.b_checked_row; (case a => k_is); (case l => k_is); (case c => k_is); (case k => k_is))
    (case d_change_of => refine' Bf.defB_mk KX G ?a ?l ?c ?k Bf.b_change_of; (case a => k_is); (case l => k_is); (case c => k_is); (case k => k_is))
    (case d_reach_of => refine' Bf.defB_mk KX G ?a ?l ?c ?k Bf.b_reach_of; (case a => k_is); (case l => k_is); (case c => k_is); (case k => k_is))
    (case d_both_rings => refine' Bf.defB_mk KX G ?a ?l ?c ?k Bf.b_both_rings; (case a => k_is); (case l => k_is); (case c => k_is); (case k => k_is))
    (case d_from_on => refine' Bf.defB_mk KX G ?a ?l ?c ?k Bf.b_from_on; (case a => k_is); (case l => k_is); (case c => k_is); (case k => k_is))
    (case d_agree => refine' Bf.defB_mk KX G ?a ?l ?c ?k Bf.b_agree; (case a => k_is); (case l => k_is); (case c => k_is); (case k => k_is))
    (case d_primes_of => refine' Bf.defB_mk KX G ?a ?l ?c ?k Bf.b_primes_of; (case a => k_is); (case l => k_is); (case c => k_is); (case k => k_is))
    (case d_end_of => refine' Bf.defB_mk KX G ?a ?l ?c ?k Bf.b_end_of; (case a => k_is); (case l => k_is); (case c => k_is); (case k => k_is))
    (case d_near_counts => refine' Bf.defB_mk KX G ?a ?l ?c ?k Bf.b_near_counts; (case a => k_is); (case l => k_is); (case c => k_is); (case k => k_is))
    (case d_runs_of => refine' Bf.defB_mk KX G ?a ?l ?c ?k Bf.b_runs_of; (case a => k_is); (case l => k_is); (case c => k_is); (case k => k_is))
    (case d_is_run => refine' Bf.defB_mk KX G ?a ?l ?c ?k Bf.b_is_run; (case a => k_is); (case l => k_is); (case c => k_is); (case k => k_is))
    (case d_is_within => refine' Bf.defB_mk KX G ?a ?l ?c ?k Bf.b_is_within; (case a => k_is); (case l => k_is); (case c => k_is); (case k => k_is))
    (case d_is_falling => refine' Bf.defB_mk KX G ?a ?l ?c ?k Bf.b_is_falling; (case a => k_is); (case l => k_is); (case c => k_is); (case k => k_is))
    (case d_checked_falling => refine' Bf.defB_mk KX G ?a ?l ?c ?k Bf.b_checked_falling; (case a => k_is); (case l => k_is); (case c => k_is); (case k => k_is))
    (case d_has => refine' Bf.defB_mk KX G ?a ?l ?c ?k Bf.b_has; (case a => k_is); (case l => k_is); (case c => k_is); (case k => k_is))
    (case d_falling_of => refine' Bf.defB_mk KX G ?a ?l ?c ?k Bf.b_falling_of; (case a => k_is); (case l => k_is); (case c => k_is); (case k => k_is))
    (case d_agreeing => refine' Bf.defB_mk KX G ?a ?l ?c ?k Bf.b_agreeing; (case a => k_is); (case l => k_is); (case c => k_is); (case k => k_is))
    (case d_checked_counts => refine' Bf.defB_mk KX G ?a ?l ?c ?k Bf.b_checked_counts; (case a => k_is); (case l => k_is); (case c => k_is); (case k => k_is))
    (case d_closing => refine' Bf.defB_mk KX G ?a ?l ?c ?k Bf.b_closing; (case a => k_is); (case l => k_is); (case c => k_is); (case k => k_is))
    (case d_links_of => refine' Bf.defB_mk KX G ?a ?l ?c ?k Bf.b_links_of; (case a => k_is); (case l => k_is); (case c => k_is); (case k => k_is))
    (case d_nearer => refine' Bf.defB_mk KX G ?a ?l ?c ?k Bf.b_nearer; (case a => k_is); (case l => k_is); (case c => k_is); (case k => k_is))
    (case d_hanging => refine' Bf.defB_mk KX G ?a ?l ?c ?k Bf.b_hanging; (case a => k_is); (case l => k_is); (case c => k_is); (case k => k_is))
    (case d_walk => refine' Bf.defB_mk KX G ?a ?l ?c ?k Bf.b_walk; (case a => k_is); (case l => k_is); (case c => k_is); (case k => k_is))
    (case d_checked_mark => refine' Bf.defB_mk KX G ?a ?l ?c ?k Bf.b_checked_mark; (case a => k_is); (case l => k_is); (case c => k_is); (case k => k_is))
    (case d_mark_for => refine' Bf.defB_mk KX G ?a ?l ?c ?k Bf.b_mark_for; (case a => k_is); (case l => k_is); (case c => k_is); (case k => k_is))
    (case d_apart => refine' Bf.defB_mk KX G ?a ?l ?c ?k Bf.b_apart; (case a => k_is); (case l => k_is); (case c => k_is); (case k => k_is))
    (case d_ring_of => refine' Bf.defB_mk KX G ?a ?l ?c ?k Bf.b_ring_of; (case a => k_is); (case l => k_is); (case c => k_is); (case k => k_is))
    (case d_least_power => refine' Bf.defB_mk KX G ?a ?l ?c ?k Bf.b_least_power; (case a => k_is); (case l => k_is); (case c => k_is); (case k => k_is))
    (case d_marked_machine => refine' Bf.defB_mk KX G ?a ?l ?c ?k Bf.b_marked_machine; (case a => k_is); (case l => k_is); (case c => k_is); (case k => k_is))
    (case d_machine_against => refine' Bf.defB_mk KX G ?a ?l ?c ?k Bf.b_machine_against; (case a => k_is); (case l => k_is); (case c => k_is); (case k => k_is))
    (case d_Bench_init => intro gC; refine' Bf.makB_mk gC ?mk ?kc ?a ?i ?l ?c Bf.b_Bench_init; (case mk => k_is); (case kc => k_is); (case a => k_is); (case i => k_is); (case l => k_is); (case c => k_is))
    (case d_Bench_program => refine' Bf.metB_mk ?cl ?a ?i ?l ?c ?k Bf.b_Bench_program; (case cl => refine' L2.Cls.mk ?pg ?hd ?po ?sa; (case pg => k_is); (case hd => k_is); (case po => k_is); (case sa => k_is)); (case a => k_is); (case i => k_is); (case l => k_is); (case c => k_is); (case k => k_is))
    (case d_Bench_turn => refine' Bf.metB_mk ?cl ?a ?i ?l ?c ?k Bf.b_Bench_turn; (case cl => refine' L2.Cls.mk ?pg ?hd ?po ?sa; (case pg => k_is); (case hd => k_is); (case po => k_is); (case sa => k_is)); (case a => k_is); (case i => k_is); (case l => k_is); (case c => k_is); (case k => k_is))
    (case d_Bench_put => refine' Bf.metB_mk ?cl ?a ?i ?l ?c ?k Bf.b_Bench_put; (case cl => refine' L2.Cls.mk ?pg ?hd ?po ?sa; (case pg => k_is); (case hd => k_is); (case po => k_is); (case sa => k_is)); (case a => k_is); (case i => k_is); (case l => k_is); (case c => k_is); (case k => k_is))
    (case d_Bench_could => refine' Bf.metB_mk ?cl ?a ?i ?l ?c ?k Bf.b_Bench_could; (case cl => refine' L2.Cls.mk ?pg ?hd ?po ?sa; (case pg => k_is); (case hd => k_is); (case po => k_is); (case sa => k_is)); (case a => k_is); (case i => k_is); (case l => k_is); (case c => k_is); (case k => k_is))
    (case d_Bench_exchange => refine' Bf.metB_mk ?cl ?a ?i ?l ?c ?k Bf.b_Bench_exchange; (case cl => refine' L2.Cls.mk ?pg ?hd ?po ?sa; (case pg => k_is); (case hd => k_is); (case po => k_is); (case sa => k_is)); (case a => k_is); (case i => k_is); (case l => k_is); (case c => k_is); (case k => k_is))
    (case d_law_let => refine' Bf.defB_mk KX G ?a ?l ?c ?k Bf.b_law_let; (case a => k_is); (case l => k_is); (case c => k_is); (case k => k_is))
    (case d_law_draw => refine' Bf.defB_mk KX G ?a ?l ?c ?k Bf.b_law_draw; (case a => k_is); (case l => k_is); (case c => k_is); (case k => k_is))
    (case d_law_any => refine' Bf.defB_mk KX G ?a ?l ?c ?k Bf.b_law_any; (case a => k_is); (case l => k_is); (case c => k_is); (case k => k_is))
    (case d_law_of => refine' Bf.defB_mk KX G ?a ?l ?c ?k Bf.b_law_of; (case a => k_is); (case l => k_is); (case c => k_is); (case k => k_is))
    (case d_law_mixed => refine' Bf.defB_mk KX G ?a ?l ?c ?k Bf.b_law_mixed; (case a => k_is); (case l => k_is); (case c => k_is); (case k => k_is))
    (case d_law_then => refine' Bf.defB_mk KX G ?a ?l ?c ?k Bf.b_law_then; (case a => k_is); (case l => k_is); (case c => k_is); (case k => k_is))
    (case d_law_place => refine' Bf.defB_mk KX G ?a ?l ?c ?k Bf.b_law_place; (case a => k_is); (case l => k_is); (case c => k_is); (case k => k_is))
    (case d_law_power => refine' Bf.defB_mk KX G ?a ?l ?c ?k Bf.b_law_power; (case a => k_is); (case l => k_is); (case c => k_is); (case k => k_is))
    (case d_law_two => refine' Bf.defB_mk KX G ?a ?l ?c ?k Bf.b_law_two; (case a => k_is); (case l => k_is); (case c => k_is); (case k => k_is))
    (case d_law_members => refine' Bf.defB_mk KX G ?a ?l ?c ?k Bf.b_law_members; (case a => k_is); (case l => k_is); (case c => k_is); (case k => k_is))
    (case d_law_falling => refine' Bf.defB_mk KX G ?a ?l ?c ?k Bf.b_law_falling; (case a => k_is); (case l => k_is); (case c => k_is); (case k => k_is))
    (case d_law_columns => refine' Bf.defB_mk KX G ?a ?l ?c ?k Bf.b_law_columns; (case a => k_is); (case l => k_is); (case c => k_is); (case k => k_is))
    (case d_law_steps => refine' Bf.defB_mk KX G ?a ?l ?c ?k Bf.b_law_steps; (case a => k_is); (case l => k_is); (case c => k_is); (case k => k_is))
    (case d_law_done => refine' Bf.defB_mk KX G ?a ?l ?c ?k Bf.b_law_done; (case a => k_is); (case l => k_is); (case c => k_is); (case k => k_is))
    (case d_law_machine => refine' Bf.defB_mk KX G ?a ?l ?c ?k Bf.b_law_machine; (case a => k_is); (case l => k_is); (case c => k_is); (case k => k_is))
    (case d_law_comes => refine' Bf.defB_mk KX G ?a ?l ?c ?k Bf.b_law_comes; (case a => k_is); (case l => k_is); (case c => k_is); (case k => k_is))
    (case d_law_close => refine' Bf.defB_mk KX G ?a ?l ?c ?k Bf.b_law_close; (case a => k_is); (case l => k_is); (case c => k_is); (case k => k_is))
    (case d_law_walked => refine' Bf.defB_mk KX G ?a ?l ?c ?k Bf.b_law_walked; (case a => k_is); (case l => k_is); (case c => k_is); (case k => k_is))
    (case d_law_parts => refine' Bf.defB_mk KX G ?a ?l ?c ?k Bf.b_law_parts; (case a => k_is); (case l => k_is); (case c => k_is); (case k => k_is))
    (case d_law_follows_right => refine' Bf.defB_mk KX G ?a ?l ?c ?k Bf.b_law_follows_right; (case a => k_is); (case l => k_is); (case c => k_is); (case k => k_is))
    (case d_law => refine' Bf.defB_mk KX G ?a ?l ?c ?k Bf.b_law; (case a => k_is); (case l => k_is); (case c => k_is); (case k => k_is))
