import PyProof.Rows.All
import Wide.All
import OpenK.AllK
import Wide.FinOn
import PyProof.EnumMake
import PyProof.Draws
import KE.GoesMore
import KE.GoesEnum
import HandS.ForMost
import HandS.ForExc
import HandS.Walk
import PyProof.InstNe
import HandS.More
import HandS.Slots
import HandS.SlotsOwn
import HandS.Style
import HandS.Codes
import HandS.IntHex
import PyProof.ReprRoads
import PyProof.ReprBulk
import HandS.Defaults
import HandS.HeadEnd
import KE.KExcSuper
import KE.KSuper
import HandS.ExcInit
import HandS.Call
import HandS.Words
import KE.KIsAll
import KE.KTryMore
import HandS.ExcIs
import HandS.ExcField
import HandS.Text
import HandS.Star
import HandS.SortInts
import HandS.IsInst
import HandS.Zip
import HandS.TupAny
import HandS.Property
import PyProof.FitsInt
import PyProof.EqLayable
import PyProof.P3Eq
import HandS.HeadNt
import HandS.HeadHook3
import HandS.HeadHook4
import HandS.Head0
import HandS.Head1
import HandS.Head2
import PySem.Challenge.RW_standwaves_k89_whole_games_runs_and_logs
set_option Elab.async false
set_option linter.all false
set_option maxRecDepth 100000
namespace Sw
open PySem
/-! ## places in the text -/
def top (i : Nat) : Stmt := PySem.Challenge.pw_standwaves_k89_whole_games_runs_and_logs.main.body.getD i (.Pass ⟨0, 0, 0, 0⟩)
def sub (i j : Nat) : Stmt := match top i with
  | .ClassDef _ _ _ body _ _ _ _ _ _ _ => body.getD j (.Pass ⟨0, 0, 0, 0⟩)
  | _ => .Pass ⟨0, 0, 0, 0⟩
end Sw
set_option maxHeartbeats 4000000
namespace Sw
open PySem PySem.Spec PyProof.Rows L2
/-! enumerate(text): each sign in a new pair -/
def ItEs (x : Str) : It :=
  ⟨fun i _ => i < x.cps.size,
   fun i H v H' => ∃ T c, v = .ref T ∧ H T = none ∧ H' = upd H T (.tup [.int (i : Nat), .str ⟨#[c]⟩]) ∧ x.cps[i]? = some c,
   fun i _ => i = x.cps.size⟩
theorem turn_enumS {P : Program} {w : World} {K : PySem.W.Frag} {ts : List Expr} {kk : Nat} {tp : Pos} (x : Str) (tt : Tok) (e it : Addr) :
    Turn P w K (.Tuple ts kk tp) (ItEs x) [e, it] e (fun i h => (∃ old, IsEnum h e it ((i : Nat) : Int) old) ∧ h.IsStrIter it (strIterType x) x tt i ∧ e ≠ it) where
  mem := by simp
  obj := fun i h st b hb => by
    obtain ⟨⟨old, he⟩, ⟨o, ho, hc, hd⟩, _⟩ := st
    rcases (show b = e ∨ b = it by simpa using hb) with rfl | rfl
    · exact ⟨_, he, fun v q => nomatch q⟩
    · exact ⟨o, ho, fun v q => by rw [hd] at q; cases q⟩
  keep := fun i h h' st k => by
    obtain ⟨⟨old, he⟩, ⟨o, ho, r⟩, hne⟩ := st
    exact ⟨⟨old, k e (by simp) _ he⟩, ⟨o, k it (by simp) o ho, r⟩, hne⟩
  item := by
    intro X hP hw hK hc i pins s σ H E I hf st hg
    subst hP hw hK
    obtain ⟨⟨old, he⟩, hit, hne⟩ := st
    have el : e < s.heap.objs.size := Heap.lt_size he
    have il : it < s.heap.objs.size := by
      obtain ⟨_, q, _⟩ := hit
      exact Heap.lt_size q
    have D := Draws.text (prog := X.prog) (w := X.w) (A := X.A.in1) (I.ok.hd hc) it x tt
    refine wpAny_pyNext_enum_itemD D he hit hg hne (by simpa using hne) fun v h' tk hv ho hit' hT hsz hk => ?_
    obtain ⟨c, u, hcx, rfl⟩ := hv
    refine ⟨_, rfl, wpAny_letOwnedTupleGo_enum (s := { s with heap := h', toks := tk + 1 }) ho fun h2 he2 sb => ?_⟩
    have hT2 := (sb.2 _ (Nat.ne_of_gt el)).trans hT
    have new : ObjOk X.prog X.w (upd H s.heap.objs.size (.tup [.int (i : Nat), .str ⟨#[c]⟩])) h2 s.heap.objs.size (.tup [.int (i : Nat), .str ⟨#[c]⟩]) :=
      ⟨by show 2 ≤ sizeLine; decide, _, .cons ⟨tk, rfl⟩ (.cons ⟨u, rfl⟩ .nil), ⟨_, hT2, rfl, _, rfl⟩⟩
    have far : ∀ b ob, b ∉ [e, it] → s.heap.get? b = some ob → h2.get? b = some ob := fun b ob hb q => by
      have b1 : b ≠ e := fun z => hb (by simp [z])
      have b2 : b ≠ it := fun z => hb (by simp [z])
      exact (sb.2 b b1).trans (hk b ob b1 b2 q)
    have I1 : Inv X pins σ (upd H s.heap.objs.size (.tup [.int (i : Nat), .str ⟨#[c]⟩])) { s with heap := h2, toks := tk + 1 } :=
      I.turnedNew (ch := [e, it]) far hf (Nat.le_refl _) new
    refine ⟨.ref s.heap.objs.size, _, I1, rfl, ⟨_, c, rfl, I.hok.fresh (Nat.le_refl _), rfl, hcx⟩, ⟨⟨.str ⟨#[c]⟩ u, ?_⟩, ?_, hne⟩, fun b hb => ?_⟩
    · rw [Int.natCast_add]; exact he2
    · obtain ⟨o, q, r⟩ := hit'
      exact ⟨o, (sb.2 it (Ne.symm hne)).trans q, r⟩
    · have lb : b < s.heap.objs.size := by
        rcases (show b = e ∨ b = it by simpa using hb) with rfl | rfl
        · exact el
        · exact il
      rw [upd_ne (Nat.ne_of_lt lb)]
      exact (hf b hb).1
  done := by
    intro X hP hw hK hc i pins s σ H E I hf st hg
    subst hP hw hK
    obtain ⟨⟨old, he⟩, hit, hne⟩ := st
    have hg' : i = x.cps.size := hg
    subst hg'
    obtain ⟨f0, f1, f2, f3, f4, f5⟩ := hf it (by simp)
    have D := Draws.text (prog := X.prog) (w := X.w) (A := X.A.in1) (I.ok.hd hc) it x tt
    exact wpAny_pyNext_enum_endD D he hit fun h' eb => ⟨rfl, I.turned (t' := s.toks) (fun b o hb q => eb b o hb q) f0 f1 f3 f4 f5⟩
  self := fun A i s Q E st h => by
    obtain ⟨⟨_, he⟩, _⟩ := st
    exact wpAny_pyIter_enum he h
def iEnumS (ta : TA) : TI := fun σ H R => ta σ H fun vs H1 => ∃ x, vs = [.str x] ∧ R (ItEs x) H1
theorem pi_enumS {X : Cx} {e : Expr} {ta : TA} {p pos tp : Pos} {ts : List Expr} {kk : Nat} (hg : Gl X "enumerate") (hm : X.mg "enumerate" = none) (ha : PA X [e] ta)
    (hs : starEach [e] X.env = [(false, eval e X.env)] := by rfl) : PI X (.Tuple ts kk tp) (.Call (.Name "enumerate" p) [e] [] pos) (iEnumS ta) := by
  refine ⟨fun pins s σ H R I h => ?_⟩
  refine Call_ (ld_blt I hg hm boot_enumerate (PyProof.Rows.callWith_type1 (thn (ha.run pos pins s σ H _ I h) fun us s1 hh => ?_) hs rfl))
  obtain ⟨vs, H1, I1, r1, x, ex, q⟩ := hh
  subst ex
  obtain ⟨u, rfl, t, rfl⟩ := vals1 r1
  refine call_enumerate_str fun h' he hit hsz hk => wpAny_pyIter_enum he ?_
  have I2 : Inv X pins σ H1 { s1 with heap := h' } := I1.kept (t' := s1.toks) hk
  refine ⟨s1.heap.objs.size + 1, [s1.heap.objs.size + 1, s1.heap.objs.size], _, _, H1, rfl, I2, turn_enumS x t (s1.heap.objs.size + 1) s1.heap.objs.size, ⟨⟨.none, he⟩, hit, Nat.succ_ne_self _⟩, fun b hb => ?_, q⟩
  have le : s1.heap.objs.size ≤ b := by
    rcases (show b = s1.heap.objs.size + 1 ∨ b = s1.heap.objs.size by simpa using hb) with rfl | rfl
    · exact Nat.le_succ _
    · exact Nat.le_refl _
  exact I1.fpOk le (I1.hok.fresh le)
theorem walk_enumS {x : Str} : Walk (ItEs x) x.cps.size (fun _ => True) (fun i H v H' => ∃ T c, v = .ref T ∧ H T = none ∧ H' = upd H T (.tup [.int (i : Nat), .str ⟨#[c]⟩]) ∧ x.cps[i]? = some c) :=
  ⟨fun _ _ h _ => h, fun _ _ => rfl, fun _ _ _ _ _ _ h => h⟩
end Sw
namespace Sw
open PySem PySem.Spec PyProof.Rows L2
/-! ## slots: a target, an augmented store -/
def gSl (K : PySem.W.Frag) (to : TE) (f : Str) : TG := fun y σ H Q => to σ H fun x H1 => ∃ a C dx p vs i, x = .ref a ∧ SlX.Slt H1 a C dx vs ∧ SlX.SCls K C ∧ SlX.Slot1 K C f p i ∧ Q σ (SlX.slH H1 a C dx (SlX.putS i y vs))
theorem pg_sl {X : Cx} {o : Expr} {to : TE} {f : Str} {pos : Pos} (ho : PE X o to)
    (ha : ∀ v, assign (.Attribute o f pos) X.env v = (do let ov ← holding [v] (eval o X.env); standAt pos.atName; holding [v, ov] (setAttr ov f v); release [v, ov] []) := by intro _; rfl) :
    PG X (.Attribute o f pos) (gSl X.K to f) := by
  refine ⟨fun pins s σ H y u Q I ry h => ?_⟩
  rw [ha]
  refine wpAny_bind (wpAny_holding (thn (ho.run pins s σ H _ I h) fun ov s1 hh => ?_))
  obtain ⟨x, H1, I1, rx, a, C, dx, p, vs, i, ex, hsl, c, t, q⟩ := hh
  subst ex
  obtain rfl : ov = Value.ref a := rx
  refine wpAny_bind (wpAny_standAt (wpAny_bind (wpAny_holding (SlX.setslot_ok I1 hsl c t ry fun s3 I3 => ?_))))
  exact wpAny_release ⟨σ, _, I3, q⟩
def sSlAug (K : PySem.W.Frag) (ta tv : TE) (rd : V → V → Hp → VK → Prop) (f : Str) : TS := fun D σ H => ta σ H fun x H1 => ∃ a C dx p vs i v, x = .ref a ∧ SlX.Slt H1 a C dx vs ∧ SlX.SCls K C ∧ SlX.Slot1 K C f p i ∧ vs[i]? = some (some v) ∧
  tv σ H1 fun y H2 => rd v y H2 fun z H3 => ∃ ws, SlX.Slt H3 a C dx ws ∧ D.nx σ (SlX.slH H3 a C dx (SlX.putS i z ws))
theorem ps_slaug {X : Cx} {o value : Expr} {ta tv : TE} {f : Str} {op : Operator} {rd : V → V → Hp → VK → Prop} {tp pos : Pos} (ha : PE X o ta) (hv : PE X value tv) (hop : InOp X op rd) :
    PS X (.AugAssign (.Attribute o f tp) op value pos) (sSlAug X.K ta tv rd f) := by
  refine ⟨fun pins s σ H D I h => wpAny_AugAssign_AttributeAny (thn (ha.run pins s σ H _ I h) fun ov s1 hh => ?_)⟩
  obtain ⟨x, H1, I1, rx, a, C, dx, p, vs, i, v, ex, hsl, c, t, l, q⟩ := hh
  subst ex
  obtain rfl : ov = Value.ref a := rx
  refine SlX.getslot_ok I1 hsl c t l fun u s2 I2 ru => thn (hv.run pins s2 σ H1 _ I2 q) fun u3 s3 hh3 => ?_
  obtain ⟨y, H2, I3, ry, q3⟩ := hh3
  refine thn (hop pins s3 σ H2 v y u u3 _ I3 ru ry q3) fun u4 s4 hh4 => ?_
  obtain ⟨z, H3, I4, rz, ws, hw, q4⟩ := hh4
  exact SlX.setslot_ok I4 hw c t rz fun s5 I5 => ⟨σ, _, I5, q4⟩
/-! ## a list's item, by values -/
def gtL (K : PySem.W.Frag) : V → V → Hp → VK → Prop := fun x y H Q => ∃ p xs i v, x = .ref p ∧ y = .int i ∧ 0 ≤ i ∧ SqL K H p xs ∧ xs[i.toNat]? = some v ∧ Q v H
theorem get_list {X : Cx} : PGet X (gtL X.K) := by
  intro pins s σ H o i ov iv Q I ro ri h
  obtain ⟨p, xs, k, v, rfl, rfl, h0, hq, he, q⟩ := h
  cases (show ov = Value.ref p from ro)
  obtain ⟨t, rfl⟩ := ri
  obtain ⟨its, r, pl, hz⟩ := I.list hq
  obtain ⟨u, eu, ru⟩ := r.get he
  have hl := (List.getElem?_eq_some_iff.mp he).1
  have hn := line63
  exact wpAny_getItem_list pl.isList h0 (by omega) (by simpa using eu) ⟨v, H, I, ru, q⟩
/-! ## xs[::k], k one or minus one -/
def stepRest (K : PySem.W.Frag) (x : V) (Q : VK) : Option Int → Hp → Prop
  | some k, H2 => ∃ a xs, x = .ref a ∧ SqL K H2 a xs ∧ (k = 1 ∨ k = -1) ∧ ∀ p, H2 p = none → Q (.ref p) (upd H2 p (.lst (if k = 1 then xs else xs.reverse)))
  | none, _ => False
def tStepL (K : PySem.W.Frag) (te tk : TE) : TE := fun σ H Q => te σ H fun x H1 => tPart tk σ H1 (stepRest K x Q)
theorem pick_one (items : Array Value) : slicePick items none none (some 1) = items.toList.toArray := by
  have e1 : (sliceBounds none none (some 1) items.size) = ((0 : Int), (items.size : Int), (1 : Int)) := rfl
  have e2 : sliceRange 0 (items.size : Int) 1 = List.range items.size := by
    unfold sliceRange
    simp
    congr 1
    split <;> omega
  unfold slicePick
  rw [e1, e2, PySem.W.krv_all]
theorem pe_stepL {X : Cx} {e e2 : Expr} {te tk : TE} {p3 pos : Pos} (he : PE X e te) (h2 : PE X e2 tk)
    (hsub : ∀ o i, subscripted (.Slice none none (some e2) p3) false o i = operate [o, i] (getItem o i) := by intros; with_unfolding_all rfl) : PE X (.Subscript e (.Slice none none (some e2) p3) pos) (tStepL X.K te tk) := by
  refine ⟨fun pins s σ H Q I h => Subscript_ (thn (he.run pins s σ H _ I h) fun v s1 hh => ?_)⟩
  obtain ⟨x, H1, I1, r1, q1⟩ := hh
  have hst : PO X (some e2) (tPart tk) := po_some h2
  refine wpAny_Slice (thn (po_none.run pins s1 σ H1 (fun o H2 => o = none ∧ H2 = H1) I1 ⟨rfl, rfl⟩) fun vl s2 hh2 => ?_)
  obtain ⟨l, H2, I2, pl, el, ea⟩ := hh2
  subst el ea
  refine thn (po_none.run pins s2 σ H2 (fun o H3 => o = none ∧ H3 = H2) I2 ⟨rfl, rfl⟩) fun vu s3 hh3 => ?_
  obtain ⟨u, H3, I3, pu, eu, eb⟩ := hh3
  subst eu eb
  refine thn (hst.run pins s3 σ H3 (stepRest X.K x Q) I3 q1) fun vs s4 hh4 => ?_
  obtain ⟨o, H4, I4, ps, q4⟩ := hh4
  cases o with
  | none => exact q4.elim
  | some k =>
    obtain ⟨a, xs, ex, hx, hk, q⟩ := q4
    subst ex
    cases (show v = Value.ref a from r1)
    have I5 : Inv X pins σ H4 { s4 with heap := s4.heap.push { cls := .type "slice", data := .fields #[vl, vu, vs] } } := I4.kept (t' := s4.toks) fun b ob z => Heap.get?_push_of_some _ z
    obtain ⟨its, r, ht, hz⟩ := I5.list hx
    have hlen := r.length
    refine tail_any (ops := [.ref a, .ref s4.heap.objs.size]) ht.isList.typeIs (PySem.slot_list_getitem.lookup) ?_ (by with_unfolding_all rfl)
    refine wpAny_getItem_list_slice ht.isList (Heap.IsSliceOf.new _ vl vu vs) pl pu ps (by rcases hk with rfl | rfl <;> decide) ?_ (by rw [List.size_toArray]; omega)
    have ev : Vals (if k = 1 then xs else xs.reverse) (slicePick its.toArray none none (some k)).toList := by
      rcases hk with rfl | rfl
      · rw [if_pos rfl, pick_one]; simpa using r
      · rw [if_neg (by decide), PySem.W.krv_pick]; simpa using r.reverse
    have el : (if k = 1 then xs else xs.reverse).length ≤ sizeLine := by
      split
      · exact hz
      · rw [List.length_reverse]; exact hz
    refine ⟨.ref _, _, I5.laid (t' := s4.toks) (o := .lst (if k = 1 then xs else xs.reverse)) (fun b ob z => Heap.get?_push_of_some _ z) (Nat.le_refl _) ?_, rfl, q _ (I5.hok.fresh (Nat.le_refl _))⟩
    exact ⟨el, _, 0, ev, Heap.get?_push_size _ rfl⟩
/-! ## != where the class has an own == and object's != -/
section
variable {prog : Program} {w : World} {A : Around} {E : Value → Shared → Prop} {s : Shared} {K : PySem.W.Frag} {x y C f : Addr} {ox : Obj} {od : Option Obj} {tb : Value}
theorem entry_ne {Q : Fin → Shared → Prop} (hu : A.units < cLine) (X : K.In s.heap) (I : PySem.W.InstAt s.heap x ox C od) (hs : PySem.W.findIn K (.ref C) "__eq__" = some (some (.ref f))) (hf : PySem.W.isFn K (.ref f) = true)
    (h : wpAny (model prog w) A (call (.ref f) [.ref x, .ref y]) (fun v s' => ∃ b, v = .bool b ∧ Q (.done (.ret (.bool (!b)))) s') E s) : wpAny (model prog w) A (Builtin.«object.__ne__» ⟨[.ref x, .ref y], []⟩) Q E s := by
  unfold Builtin.«object.__ne__»
  repeat (first
    | with_reducible refine wpAny_cRoomFor hu ?_
    | (refine wpAny_bind (m := callSpecialIfBound? (.ref x) (Str.ofString "__eq__") [.ref y]) (PySem.W.ifBound_K X I hs hf (wpAny_mono h (fun r s' hr => by
          obtain ⟨b, rfl, hq⟩ := hr
          repeat (first | exact hq | exact wpAny_pure hq | exact wpAny_truthy_bool hq | (refine wpAny_bind (m := truthy (.bool _)) (wpAny_truthy_bool ?_)) | wp_step)) fun _ _ e => e)))
    | wp_step)
theorem ifBound_ne {M : Model} {args : List Value} {Q : Option Value → Shared → Prop} (X : K.In s.heap) (I : PySem.W.InstAt s.heap x ox C od) (hs : PySem.W.findIn K (.ref C) "__ne__" = some (some (.builtin "object.__ne__")))
    (h : wpAny M A (call (.builtin "object.__ne__") (.ref x :: args)) (fun v => Q (some v)) E s) : wpAny M A (callSpecialIfBound? (.ref x) "__ne__" args) Q E s := by
  simp only [callSpecialIfBound?, bindSpecialIfBound?]
  refine wpAny_holding (wpAny_bind (wpAny_bind (wpAny_bind (I.type.here ((PySem.W.looks_findIn X hs).here ?_)))))
  refine wpAny_bind (wpAny_askSetting (wpAny_ite ?_))
  have fin : wpAny M A (call (.builtin "object.__ne__") ([.ref x] ++ args) >>= fun v => pure (some v)) Q E s :=
    wpAny_bind (wpAny_mono h (fun v s' z => wpAny_pure z) fun _ _ z => z)
  split
  · exact wpAny_bind (wpAny_of_eq (F.cmp_object.ne.bind _) (wpAny_pure (by exact fin)))
  · exact wpAny_tryCatch (wpAny_bind (wpAny_of_eq (F.cmp_object.ne.bind _) (wpAny_pure (by exact fin))))
theorem ne_K {Q : Value → Shared → Prop} (hu : A.units + 1 < cLine) (X : K.In s.heap) (I : PySem.W.InstAt s.heap x ox C od) (hm : PySem.W.mroIn K C (.type "object") = some true)
    (hb : PySem.W.Looks (model prog w) s.heap (typeOf (.ref y)) tb) (hn : PySem.W.notFirst K C tb = true) (hne : PySem.W.findIn K (.ref C) "__ne__" = some (some (.builtin "object.__ne__")))
    (hs : PySem.W.findIn K (.ref C) "__eq__" = some (some (.ref f))) (hf : PySem.W.isFn K (.ref f) = true)
    (h : wpAny (model prog w) A.in1 (call (.ref f) [.ref x, .ref y]) (fun v s' => ∃ b, v = .bool b ∧ Q (.bool (!b)) s') E s) : wpAny (model prog w) A (richCompare .NotEq (.ref x) (.ref y)) Q E s := by
  have one : wpAny (model prog w) A (tryCompare (.ref x) "__ne__" (.ref y)) (fun r s' => ∃ v, r = some v ∧ Q v s') E s := by
    unfold tryCompare
    refine wpAny_bind (ifBound_ne X I hne ?_)
    refine wpAny_call (codeAny_call_builtin F.cmp_object.ne.plain F.cmpEntry_ne (PySem.W.check_slot F.cmpKind_ne F.cmpSplit_ne (I.type.andThen (PySem.W.looks_mroIn X hm)) (F.cmpArgs_ne _ _) ?_))
    refine entry_ne (A := A.in1) (by exact hu) X I hs hf (wpAny_mono h (fun v s' z => ?_) fun _ _ z => z)
    obtain ⟨b, rfl, q⟩ := z
    exact ⟨b, rfl, wpAny_pure ⟨_, rfl, q⟩⟩
  unfold richCompare
  simp only [oneThing_ref, cmpInfo_NotEq]
  refine wpAny_holding (wpAny_bind (wpAny_cRoomFor (Nat.lt_of_succ_lt hu) ?_))
  refine wpAny_bind (I.type.here (wpAny_bind (hb.here ?_)))
  split
  · rename_i q
    have e : PySem.W.subIn K tb (.ref C) = some false := by
      rcases Bool.or_eq_true_iff.mp hn with e | e
      · rw [beq_iff_eq.mp e] at q; simp at q
      · exact beq_iff_eq.mp e
    refine wpAny_bind ((PySem.W.looks_subIn X e).here ?_)
    simp only [Bool.false_eq_true, if_false]
    refine wpAny_bind (wpAny_mono one (fun r s' z => ?_) fun _ _ z => z)
    obtain ⟨v, rfl, hq⟩ := z
    exact wpAny_pure hq
  · refine wpAny_bind (wpAny_pure ?_)
    simp only [Bool.false_eq_true, if_false]
    refine wpAny_bind (wpAny_mono one (fun r s' z => ?_) fun _ _ z => z)
    obtain ⟨v, rfl, hq⟩ := z
    exact wpAny_pure hq
end
/-- x != y by the own == at g -/
def rOwnNe (K : PySem.W.Frag) (C : Addr) (sp : Sp) (E : XK) : R2 := fun x y H Q => ∃ a dx vs b C' dy ws, x = .ref a ∧ y = .ref b ∧ SlX.Slt H a C dx vs ∧ SlX.Slt H b C' dy ws ∧ PySem.W.notFirst K C (.ref C') = true ∧ sp [x, y] H (fun z H' => ∃ r, z = .bl r ∧ Q (.bl (!r)) H') E
theorem op_ownNe {X : Cx} {CX : CXT} {C g : Addr} {n : Nat} {sp : Sp} {E : XK} (hm : PySem.W.mroIn X.K C (.type "object") = some true) (hne : PySem.W.findIn X.K (.ref C) "__ne__" = some (some (.builtin "object.__ne__")))
    (hs : PySem.W.findIn X.K (.ref C) "__eq__" = some (some (.ref g))) (hf : PySem.W.isFn X.K (.ref g) = true) (F : FnR X.prog X.w X.K X.mg X.base CX n g sp) (hr : Room (n + 1) X.A) (hx : Passes CX X E) : OpR X (compareOp .NotEq) (rOwnNe X.K C sp E) := by
  intro pins s σ H x y v u Q I rx ry h
  obtain ⟨a, dx, vs, b, C', dy, ws, rfl, rfl, ha, hb, hn, q⟩ := h
  cases (show v = Value.ref a from rx)
  cases (show u = Value.ref b from ry)
  obtain ⟨sl, od, _, J, _⟩ := SlX.slt_inst I ha
  obtain ⟨sl', od', _, J', _⟩ := SlX.slt_inst I hb
  have hop : compareOp .NotEq (.ref a) (.ref b) = richCompare .NotEq (.ref a) (.ref b) := rfl
  rw [hop]
  refine ne_K (by have := hr.units; omega) I.kIn J hm J'.type hn hne hs hf ?_
  refine wpAny_mono (wpAny_call (SlX.run_at (us := [.ref a, .ref b]) (ws := [.ref a, .ref b]) F hr.in1 I.env0.in1 hx I (.cons rfl (.cons rfl .nil)) q)) (fun w3 s' z => ?_) fun _ _ z => z
  obtain ⟨z', H', I', rz, r, ez, qz⟩ := z
  subst ez
  exact ⟨r, rz, V.bl (!r), H', I', rfl, qz⟩
end Sw
namespace Sw
open PySem PySem.Spec PyProof.Rows L2
/-! ## len(o) by an own def -/
def rLenOwn (C : Addr) (sp : Sp) (E : XK) : List V → Hp → VK → Prop := fun xs H Q => ∃ a dx vs, xs = [.ref a] ∧ SlX.Slt H a C dx vs ∧ sp [.ref a] H (fun z H' => ∃ n : Int, z = .int n ∧ 0 ≤ n ∧ n < 2 ^ 63 ∧ Q (.int n) H') E
theorem call_lenOwn {X : Cx} {CX : CXT} {C g : Addr} {n : Nat} {sp : Sp} {E : XK} (hs : PySem.W.findIn X.K (.ref C) "__len__" = some (some (.ref g))) (hf : PySem.W.isFn X.K (.ref g) = true)
    (F : FnR X.prog X.w X.K X.mg X.base CX n g sp) (hr : Room (n + 1) X.A) (hx : Passes CX X E) : CallR X (.builtin "len") (rLenOwn C sp E) := by
  intro pins s σ H xs us Q I r h
  obtain ⟨a, dx, vs, rfl, ha, q⟩ := h
  obtain ⟨u, rfl, ru⟩ := vals1 r
  cases (show u = Value.ref a from ru)
  obtain ⟨sl, od, _, J, _⟩ := SlX.slt_inst I ha
  obtain ⟨m, hF⟩ := I.fr
  refine PySem.W.len_K hF I.ok.mod.kin J hs hf ?_
  refine wpAny_mono (wpAny_call (SlX.run_at (us := [.ref a]) (ws := [.ref a]) F hr.in1 I.env0.in1 hx I (.cons rfl .nil) q)) (fun v s' z => ?_) fun _ _ z => z
  obtain ⟨z', H', I', rz, k, ez, h0, h1, qz⟩ := z
  subst ez
  obtain ⟨t, rfl⟩ := rz
  exact ⟨⟨h0, h1⟩, .int k, H', I'.tok _, ⟨_, rfl⟩, qz⟩
/-! ## repr of data -/
def rRepr (K : PySem.W.Frag) : List V → Hp → VK → Prop := fun xs H Q => ∃ a d, xs = [.ref a] ∧ Dp K H (.ref a) d ∧ d.showable = true ∧ d.hasDict = false ∧ d.depth < 64 ∧ d.shown.length ≤ sizeLine ∧ Q (.str d.shown) H
theorem call_repr {X : Cx} (hg : X.A.guards = some []) (hu : X.A.units + 64 < cLine) : CallR X (.builtin "repr") (rRepr X.K) := by
  intro pins s σ H xs us Q I r h
  obtain ⟨a, d, rfl, hd, h1, h2, h3, h4, q⟩ := h
  obtain ⟨u, rfl, ru⟩ := vals1 r
  cases (show u = Value.ref a from ru)
  obtain ⟨as, rd⟩ := Dp.reads I d (.ref a) (.ref a) hd rfl
  exact repr_of_reads' rd h1 (fun z => by rw [h2] at z; cases z) hg (by omega) (fun _ _ e => e) (fun h' u tk k => ⟨.str d.shown, H, I.kept (t' := tk) k, ⟨u, rfl⟩, q⟩) h4
/-! ## xs.count(True) -/
theorem count_true : ∀ bs : List Bool, countIn (.bool true) (bs.map PyData.bool) = ((bs.count true : Nat) : Int)
  | [] => rfl
  | b :: bs => by
    rw [List.map_cons, countIn, count_true bs, List.count_cons]
    cases b <;> simp [same] <;> omega
def rCntB (K : PySem.W.Frag) : V → List V → Hp → VK → Prop := fun x xs H Q => ∃ (p : Addr) (bs : List Bool), x = .ref p ∧ xs = [.bl true] ∧ SqL K H p (bs.map V.bl) ∧ Q (.int (bs.count true : Nat)) H
theorem readsAll_bools {h : Heap} : ∀ bs : List Bool, ReadsAll h (bs.map Value.bool) (bs.map PyData.bool) (bs.flatMap fun _ => [])
  | [] => .nil
  | b :: bs => .cons (.bool b) (readsAll_bools bs)
theorem mt_cntB {X : Cx} : MtR X "list.count" (rCntB X.K) := by
  intro pins s σ H x xs v us Q I rx r h
  obtain ⟨p, bs, rfl, rfl, hq, q⟩ := h
  cases (show v = Value.ref p from rx)
  obtain ⟨u, rfl, ru⟩ := vals1 r
  cases (show u = Value.bool true from ru)
  obtain ⟨its, r2, pl, hz⟩ := I.list hq
  have e := Vals.bls r2
  subst e
  refine PyProof.Rows.count_list_bools pl.isList (readsAll_bools (h := s.heap) bs) ?_ ?_
  · rw [List.all_map]
    exact List.all_eq_true.mpr fun b _ => rfl
  · rw [count_true]
    exact ⟨.int (bs.count true : Nat), H, I.tok _, ⟨_, rfl⟩, q⟩
/-! ## int(x, 2) of two signs -/
open Hx in
theorem gives_2 {x : PySem.Str} {u t : Tok} {n : Int} (hs : (numSeenOf x).length ≤ 640) (hr : (int_private% "readNumeral") 0 2 (numSeenOf x) = (int_private% "Numeral.value") n)
    (ha : ((numSeenOf x).length == (numTextOf x).length) = true) : Gives (Builtin.«int.__new__» ⟨[.type "int", .str x u, .int 2 t], []⟩) (.int n) :=
  .of_wp fun M A E s Q hQ => by
    obtain ⟨hp, g, d, tk, os⟩ := s
    have f1 := F.conv_sub_int
    have f2 := F.madeHere_int
    have f6 : typeOf (.str x u) = pure (.type "str") := rfl
    have hk := Hid.mk (And.intro hs (And.intro hr ha))
    clear hs hr ha
    repeat (any_goals (first
      | assumption
      | ((with_reducible show wpAny _ _ ((int_private% "intFromText") _ _ _) _ _ _); refine wp_textB hk.out.1 hk.out.2.1 hk.out.2.2 ?_)
      | wp_step))
    all_goals first | exact ⟨_, rfl, hQ⟩ | skip
def S2 (a b : Bool) : Str := ⟨#[if a then 49 else 48, if b then 49 else 48]⟩
theorem gives_S2 {u t : Tok} : ∀ a b : Bool, Gives (Builtin.«int.__new__» ⟨[.type "int", .str (S2 a b) u, .int 2 t], []⟩) (.int (2 * (if a then 1 else 0) + (if b then 1 else 0)))
  | false, false => gives_2 (by decide +kernel) (by kernel_rfl) (by decide +kernel)
  | false, true => gives_2 (by decide +kernel) (by kernel_rfl) (by decide +kernel)
  | true, false => gives_2 (by decide +kernel) (by kernel_rfl) (by decide +kernel)
  | true, true => gives_2 (by decide +kernel) (by kernel_rfl) (by decide +kernel)
def rInt2 : List V → Hp → VK → Prop := fun xs H Q => ∃ a b : Bool, xs = [.str (S2 a b), .int 2] ∧ Q (.int (2 * (if a then 1 else 0) + (if b then 1 else 0))) H
theorem call_int2 {X : Cx} : CallR X (.type "int") rInt2 := by
  intro pins s σ H xs us Q I r h
  obtain ⟨a, b, rfl, q⟩ := h
  obtain ⟨u, w', rfl, r1, r2⟩ := vals2 r
  obtain ⟨t1, rfl⟩ := r1
  obtain ⟨t2, rfl⟩ := r2
  exact callType_new F.called_int F.newNe_int (Hx.typeCall_int_2 _ _) (Hx.newCall_int_2 _ _) (fun obj => F.initArgs_range_2 obj _ _) F.entry_int_new (gives_S2 a b).meets
    (show (Made.int (2 * (if a then 1 else 0) + (if b then 1 else 0))).post _ s from ⟨rfl, V.int _, H, I.tok _, ⟨_, rfl⟩, q⟩)
end Sw
namespace Sw
open PySem PySem.Spec PyProof.Rows L2
/-! ## promises by positional values; with the guards of the stack told -/
def FnG (P : Program) (w : World) (K : PySem.W.Frag) (mg : Str → Option Value) (base : Heap) (CX : CXT) (k : Nat) (f : Addr) (sp : Sp) : Prop :=
  ∀ (A : Around) (outer : List Env) (s : Shared) (H : Hp) (us : List Value) (vs : List V) (Q : VK) (E : XK), Room k A → A.guards = some [] → Env0 P w K mg base A outer s H → Vals vs us → sp vs H Q E →
    codeAny (model P w) A (.call (.ref f) ⟨us, []⟩) (CR CX outer P w H s Q E) s
def tCl (sp : Sp) (E : XK) (t : TA) : TE := fun σ H Q => t σ H fun vs H1 => sp vs H1 Q E
section
variable {X : Cx} {CX : CXT} {k : Nat} {f : Addr} {sp : Sp} {E : XK} {x : Str} {p pos : Pos} {e : Expr} {es : List Expr} {t : TA}
/-- f(e, ..) -/
theorem pe_cl (F : FnR X.prog X.w X.K X.mg X.base CX k f sp) (hr : Room k X.A) (hg : Gl X x) (hm : X.mg x = some (.ref f)) (hk : PySem.W.keepIn X.K (.ref f) = true) (hx : Passes CX X E) (ha : PA X (e :: es) t)
    (hd : (x == ("__debug__" : Str)) = false := by decide) (he : starEach (e :: es) X.env = (false, eval e X.env) :: starEach es X.env := by rfl) (hpl : (backTo pos (starEach es X.env)).any (·.1) = false := by rfl) :
    PE X (.Call (.Name x p) (e :: es) [] pos) (tCl sp E t) := by
  refine ⟨fun pins s σ H Q I h => wpAny_Call_Name_kw (ld_glob I hg hm ?_ hd)⟩
  refine PySem.W.callWith_K (h₀ := X.base) I.ok.mod.kin hk (thn (ha.run pos pins s σ H _ I h) fun us s1 hh => ?_) he hpl
  obtain ⟨vs, H1, I1, r, q⟩ := hh
  exact ⟨I1.kIn, wpAny_call (run_fnR (us := us) (vs := vs) F hr hx I1 r q)⟩
theorem pe_clG (F : FnG X.prog X.w X.K X.mg X.base CX k f sp) (hr : Room k X.A) (hG : X.A.guards = some []) (hg : Gl X x) (hm : X.mg x = some (.ref f)) (hk : PySem.W.keepIn X.K (.ref f) = true) (hx : Passes CX X E) (ha : PA X (e :: es) t)
    (hd : (x == ("__debug__" : Str)) = false := by decide) (he : starEach (e :: es) X.env = (false, eval e X.env) :: starEach es X.env := by rfl) (hpl : (backTo pos (starEach es X.env)).any (·.1) = false := by rfl) :
    PE X (.Call (.Name x p) (e :: es) [] pos) (tCl sp E t) := by
  refine ⟨fun pins s σ H Q I h => wpAny_Call_Name_kw (ld_glob I hg hm ?_ hd)⟩
  refine PySem.W.callWith_K (h₀ := X.base) I.ok.mod.kin hk (thn (ha.run pos pins s σ H _ I h) fun us s1 hh => ?_) he hpl
  obtain ⟨vs, H1, I1, r, q⟩ := hh
  refine ⟨I1.kIn, wpAny_call (codeAny_mono (F X.A X.stack s1 H1 us vs Q E hr hG I1.env0 r q) fun r s' z => ?_)⟩
  cases r with
  | error e => exact hx pins σ H1 s1 e s' I1 z
  | ok fl =>
    cases fl with
    | ret u => exact I1.after z
    | next => exact False.elim z
    | brk => exact False.elim z
    | cont => exact False.elim z
/-- C(e, ..), __init__ by its promise -/
def tMk (C : Addr) (sp : Sp) (E : XK) (t : TA) : TE := fun σ H Q => t σ H fun vs H1 => ∀ x dx, H1 x = none → H1 dx = none → dx ≠ x →
  sp (.ref x :: vs) (upd (upd H1 dx (.own x)) x (.ins C dx [])) (fun v H2 => v = .non ∧ Q (.ref x) H2) E
theorem pe_mk {C : Addr} {fd : FuncData} {ps : List Str} (M : Mk X.K C f) (F : FnOk X.prog X.w X.K X.mg X.base CX k f fd ps sp) (hr : Room (k + 1) X.A) (hg : Gl X x) (hm : X.mg x = some (.ref C)) (hb : L2.Binds X.K fd ps []) (hx : Passes CX X E) (ha : PA X (e :: es) t)
    (hd : (x == ("__debug__" : Str)) = false := by decide) (he : starEach (e :: es) X.env = (false, eval e X.env) :: starEach es X.env := by rfl) (hpl : (backTo pos (starEach es X.env)).any (·.1) = false := by rfl) :
    PE X (.Call (.Name x p) (e :: es) [] pos) (tMk C sp E t) := by
  refine ⟨fun pins s σ H Q I h => ?_⟩
  have z := (pe_make (sp := sp) (E := E) (dvs := []) (ds := []) (p := p) (pos := pos) M F hr hg hm hb .nil hx ha hd he hpl).run pins s σ H Q I
  refine z ?_
  show t σ H fun vs H1 => ∀ x dx, H1 x = none → H1 dx = none → dx ≠ x → sp (.ref x :: (vs ++ [])) (upd (upd H1 dx (.own x)) x (.ins C dx [])) (fun v H2 => v = .non ∧ Q (.ref x) H2) E
  simp only [List.append_nil]
  exact h
end
/-! ## a def of the text -/
section
variable {P : Program} {w : World} {K : PySem.W.Frag} {mg : Str → Option Value} {base : Heap} {CX : CXT} {k : Nat} {f : Addr} {fd : FuncData} {x qual : Str} {params : Arguments} {body : List Stmt} {scope : Scope} {dvs : List V} {kws : List (Str × V)} {N ps : List Str} {sp : Sp}
theorem FnR.toG (F : FnR P w K mg base CX k f sp) : FnG P w K mg base CX k f sp := fun A outer s H us vs Q E hr _ e0 r h => F A outer s H us vs Q E hr e0 r h
theorem FnG.mono {j : Nat} (F : FnG P w K mg base CX j f sp) (h : j ≤ k) : FnG P w K mg base CX k f sp := fun A outer s H us vs Q E hr => F A outer s H us vs Q E (hr.mono h)
/-- by its body -/
theorem mk_fn (F : FunD K x qual params body scope dvs kws f fd) (hb : L2.Binds K fd ps []) (S : FnScope N ps scope) (len : ∀ vs H Q E, sp vs H Q E → vs.length = ps.length)
    (hbody : ∀ (cdv : Value) (A : Around) (outer : List Env) (s : Shared) (H : Hp) (vs : List V) (Q : VK) (E : XK), Room k (A.deeper (envOfC qual scope s.heap.objs.size f cdv)) → sp vs H Q E →
      ∃ t, PSs (cxOf CX P w K mg base N qual scope f cdv A outer s H E) body t ∧ t { nx := fun _ H' => Q .non H', rt := Q } (start N vs) H) : FnR P w K mg base CX (k + 1) f sp :=
  ((F.ok S len hbody).raw hb .nil).imp fun vs H Q E h => by simpa only [List.append_nil] using h
/-- the same where the stack bears no guard -/
theorem mk_fnG (F : FunD K x qual params body scope dvs kws f fd) (hb : L2.Binds K fd ps []) (S : FnScope N ps scope) (len : ∀ vs H Q E, sp vs H Q E → vs.length = ps.length)
    (hbody : ∀ (cdv : Value) (A : Around) (outer : List Env) (s : Shared) (H : Hp) (vs : List V) (Q : VK) (E : XK), Room k (A.deeper (envOfC qual scope s.heap.objs.size f cdv)) → A.guards = some [] → sp vs H Q E →
      ∃ t, PSs (cxOf CX P w K mg base N qual scope f cdv A outer s H E) body t ∧ t { nx := fun _ H' => Q .non H', rt := Q } (start N vs) H) : FnG P w K mg base CX (k + 1) f sp := by
  intro A outer s H us vs Q E hr hG e0 r h
  obtain ⟨oc, od, dV, kV, doc, pm, an, cdv, ct, osl, rfl, lk, hcd, _, _⟩ := F.ex
  have hl := len _ _ _ _ h
  have hlu : (us ++ []).length = ps.length := by rw [List.append_nil, ← r.length]; exact hl
  have keep : ∀ b o, base.get? b = some o → s.heap.get? b = some o := fun b o e => (e0.bs b o e).1
  have KX : K.In s.heap := e0.mod.kin.keeps keep
  have lim : s.heap.NoLimit := e0.mod.nolimit.keeps keep
  have hb' := hb s us KX hlu
  rw [List.append_nil] at hb'
  have hkind : ∀ y ∈ ps.zip us, scope.names.lookup y.1 = some .local ∨ (scope.names.lookup y.1 = some .cell ∧ ((cellsFrom (s.heap.objs.size + 1) scope.names []).lookup y.1).isSome = true) := fun y hy => by
    obtain ⟨n, v⟩ := y
    exact (S.par n (List.of_mem_zip hy).1).imp id fun q => ⟨q, PySem.W.cellsFrom_some _ _ _ (.inl q)⟩
  refine codeAny_call_function hr.depth (KX _ _ lk) rfl S.co S.gen rfl (PySem.W.codeRec_of KX hcd) (hb' _ _ _ _ ?_)
  refine wpAny_newFunctionEnv_cells S.kind hkind fun env he s1 z => ?_
  subst he
  refine ⟨lim.keeps z.toInCall.keep, codeAny_func ?_⟩
  obtain ⟨t, ht, hq⟩ := hbody cdv A outer s H vs Q E (hr.deeper _) hG h
  have I : Inv (cxOf CX P w K mg base N qual scope f cdv A outer s H E) [] (start N vs) H s1 := inv_start S hr.hd e0 hl r z
  refine wpAny_mono (ht.run [] s1 (start N vs) H _ I hq) (fun fl s' hs => ?_) fun e s' hs => hs
  cases fl with
  | ret u =>
    obtain ⟨v, σ', H', J, rv, q⟩ := hs
    exact ⟨v, H', J.os, J.bare, J.base, J.hok, rv, q⟩
  | next =>
    obtain ⟨σ', H', J, q⟩ := hs
    exact ⟨V.non, H', J.os, J.bare, J.base, J.hok, rfl, q⟩
  | brk =>
    obtain ⟨_, _, _, q⟩ := hs
    exact q.elim
  | cont =>
    obtain ⟨_, _, _, q⟩ := hs
    exact q.elim
end
/-! ## the law's end -/
section
variable {P : Program} {w : World} {K : PySem.W.Frag} {mg mb : Str → Option Value} {CX : CXT} {k : Nat} {fa a : Addr} {sp : Sp} {sx : Shared} {vs : List Value} {ns : List Int}
theorem core_G {H : Hp} (KX : K.In sx.heap) (hns : sx.heap.Ns mainGlobals mg) (hb : sx.heap.Ns builtinsNs mb) (hbb : ∀ x : Str, x ≠ "__name__" → mb x = bootBuiltins x) (hlim : sx.heap.NoLimit) (hg : sx.gens = #[])
    (ha : sx.heap.get? a = some { cls := .type "list", data := .seq vs.toArray }) (hr : Room k callerA) (F : ∀ base : Heap, K.In base → base.Ns mainGlobals mg → FnG P w K mg base CX k fa sp)
    (hsp : sp [.ref a] H (fun v _ => v = .bl true) fun _ _ _ => False) (hCX : ∀ H e s', CX [] H sx (fun _ _ _ => False) e s' → False) (hO : Only H) (hok : HOk P w H sx.heap) (hA : ∀ b, H b ≠ none → b = a) (hK : H a ≠ none → K.lookup a = none) :
    codeAny (model P w) callerA (.call (.ref fa) ⟨[.ref a], []⟩) (fun r s' => r = .ok (.ret (.bool true)) ∧ OldK sx.heap s'.heap ∧ s'.os = sx.os ∧ AllBare s'.gens) sx := by
  have noD : ∀ {b : Addr} {o : Obj} {es : Array DictEntry} {ep : Nat}, sx.heap.get? b = some o → o.data = .dict es ep → H b = none := fun {b o es ep} e d => Classical.byContradiction fun z => by
    have q := hA b z
    subst q
    rw [ha] at e; cases e; cases d
  have ns' : ∀ {b : Addr} {m : Str → Option Value}, sx.heap.Ns b m → (hidT sx.heap H).Ns b m := fun {b m} z => by
    obtain ⟨o, es, ep, e, d, r⟩ := z
    exact ⟨o, es, ep, hidT_get e (noD e d), d, r⟩
  have kin : K.In (hidT sx.heap H) := fun b o e => hidT_get (KX b o e) (Classical.byContradiction fun z => by
    have q := hA b z
    subst q
    rw [hK z] at e; cases e)
  have lim : (hidT sx.heap H).NoLimit := by
    obtain ⟨mc, h1, h2⟩ := hlim
    exact ⟨mc, ns' h1, h2⟩
  have e0 : Env0 P w K mg (hidT sx.heap H) callerA [] sx H :=
    ⟨rfl, ⟨kin, ns' hns, ⟨mb, ns' hb, hbb⟩, lim⟩, fun b o e => of_hidT e, Nat.le_of_eq (hidT_size _ _), trivial, fun b z => absurd (show b ∈ ([] : List Addr) from z) (by simp), hok, .of_eq hg⟩
  refine codeAny_mono (F _ kin (ns' hns) callerA [] sx H [.ref a] [.ref a] _ _ hr rfl e0 (.cons rfl .nil) hsp) fun r s' h => ?_
  cases r with
  | error e => exact (hCX H e s' h).elim
  | ok fl =>
    cases fl with
    | next => exact False.elim h
    | brk => exact False.elim h
    | cont => exact False.elim h
    | ret u =>
      obtain ⟨v, H', os, bare, un, hok', r', q⟩ := h
      cases (show v = V.bl true from q)
      cases (show u = Value.bool true from r')
      refine ⟨rfl, OldK.of_keep fun b o e => ?_, os, bare⟩
      rcases hO b with z | ⟨ob, xs, z⟩
      · exact un.keep b o e z (by intro y; exact absurd (show b ∈ ([] : List Addr) from y) (by simp)) (by simp)
      · obtain ⟨e1, _⟩ := hok b _ z
        obtain ⟨e2, _⟩ := hok' b _ (un.frzs b ob _ z)
        rw [e] at e1; cases e1
        exact e2
theorem call_G (KX : K.In sx.heap) (hns : sx.heap.Ns mainGlobals mg) (hb : sx.heap.Ns builtinsNs mb) (hbb : ∀ x : Str, x ≠ "__name__" → mb x = bootBuiltins x) (hlim : sx.heap.NoLimit) (hg : sx.gens = #[])
    (ha : sx.heap.get? a = some { cls := .type "list", data := .seq vs.toArray }) (hi : IntsAre vs ns) (hl : ns.length ≤ sizeLine) (hr : Room k callerA) (F : ∀ base : Heap, K.In base → base.Ns mainGlobals mg → FnG P w K mg base CX k fa sp)
    (hsp : ∀ H : Hp, Only H → SqL K H a (ns.map V.int) → sp [.ref a] H (fun v _ => v = .bl true) fun _ _ _ => False) (hCX : ∀ H e s', CX [] H sx (fun _ _ _ => False) e s' → False) :
    codeAny (model P w) callerA (.call (.ref fa) ⟨[.ref a], []⟩) (fun r s' => r = .ok (.ret (.bool true)) ∧ OldK sx.heap s'.heap ∧ s'.os = sx.os ∧ AllBare s'.gens) sx := by
  have rv := vals_ints hi
  have lenV := hi.length
  cases hk : K.lookup a with
  | some o =>
    have e := KX a o hk
    rw [ha] at e
    cases e
    have sq : SqL K (fun _ => none) a (ns.map V.int) := .inr ⟨_, vs.toArray, _, hk, rfl, rfl, rfl, by rw [List.size_toArray, lenV]; exact hl, by simpa using rv⟩
    have oh : Only (fun _ => none) := fun _ => .inl rfl
    exact core_G (H := fun _ => none) KX hns hb hbb hlim hg ha hr F (hsp _ oh sq) hCX oh (fun b u z => by cases (show (none : Option HO) = some u from z)) (fun b z => absurd rfl z) fun z => absurd rfl z
  | none =>
    have e1 : ∀ b, b = a → (if b = a then some (HO.frz { cls := .type "list", data := .seq vs.toArray } (.lst (ns.map V.int))) else none) = some (HO.frz { cls := .type "list", data := .seq vs.toArray } (.lst (ns.map V.int))) := fun b z => if_pos z
    have oh : Only (fun b => if b = a then some (HO.frz { cls := .type "list", data := .seq vs.toArray } (.lst (ns.map V.int))) else none) := fun b => by
      by_cases q : b = a
      · exact .inr ⟨_, _, if_pos q⟩
      · exact .inl (if_neg q)
    refine core_G KX hns hb hbb hlim hg ha hr F (hsp _ oh (.inl (.inr ⟨_, e1 a rfl⟩))) hCX oh (fun b u z => ?_) (fun b z => Classical.byContradiction fun q => z (if_neg q)) fun _ => hk
    by_cases q : b = a
    · subst q
      cases (e1 b rfl).symm.trans z
      exact ⟨ha, by rw [List.length_map]; exact hl, vs, _, rv, ha⟩
    · cases (if_neg q).symm.trans z
end
theorem walk_ofG {l : PySem.W.OpenLaw} {n k : Nat} {q : Program} {loose : List Str} {XP : (Str → Option Value) → Heap → Prop} {YP : World → Heap → Prop} {d : DefRec} {CX : World → CXT}
    (hn : l.most = some n) (hn2 : n ≤ sizeLine) (hdf : d.params.defaults = []) (hr : Room k callerA)
    (F : ∀ (w : World) (mg : Str → Option Value) (fa : Addr) (h : Heap), YP w h → h.Ns mainGlobals mg → mg d.name = some (.ref fa) →
      ∃ (K : PySem.W.Frag) (sp : Sp), K.In h ∧ (∀ (H : Hp) (a : Addr) (ns : List Int), ns.length ≤ n → Only H → SqL K H a (ns.map V.int) → sp [.ref a] H (fun v _ => v = .bl true) fun _ _ _ => False) ∧
        ∀ base : Heap, K.In base → base.Ns mainGlobals mg → FnG l.prog w K mg base (CX w) k fa sp)
    (hCX : ∀ (w : World) (H : Hp) (s : Shared) (e : Value) (s' : Shared), CX w [] H s (fun _ _ _ => False) e s' → False) : PySem.W.WalkO q loose XP YP l.row.toRowW d [] (fun f vs => PySem.call f vs) := by
  refine Att.attach_call hn hdf fun w s0 sx mg mb fa o pm cd doc a vs ns G Y ho hd hcd hmg hobj hints hlen hg => ?_
  obtain ⟨K, sp, KX, hsp, hF⟩ := F w mg fa _ Y G.T.g hmg
  exact call_G KX G.T.g G.T.b G.T.builtins G.T.nolimit hg hobj hints (Nat.le_trans hlen hn2) hr hF (fun H hO hS => hsp H a ns hlen hO hS) fun H e s' => hCX w H sx e s'
end Sw
namespace Sw
open PySem PySem.Spec PyProof.Rows PySem.W PySem.Calls PySem.HandSPX
open L2 (defArgs defBody defScope)
/-! ## own exceptions whose __init__ calls super().__init__(text) -/
def exOk (K : PySem.W.Frag) (C : Addr) : Bool := match K.lookup C with
  | some ⟨.type "type", _, .cls cd, sl⟩ => (match cd.mro, sl.toList with
    | .ref C' :: bm, [_, _, _, _, some (.builtin n), _] => C' == C && n == "ValueError.__new__" && !cd.hasDel && refsVE bm && cd.hasDict
    | _, _ => false)
  | _ => false
theorem exOk_of {K : PySem.W.Frag} {C : Addr} (q : exOk K C = true) : ∃ nm q N bs bm sn sub ab col dd k0 k1 k2 k3 k5, K.lookup C = some (excClassObj nm q C N bs bm true sn sub ab col dd k0 k1 k2 k3 k5 "ValueError.__new__") ∧ refsVE bm = true := by
  unfold exOk at q
  split at q
  · rename_i dd cd sl ho
    split at q
    · rename_i C' bm k0 k1 k2 k3 n k5 hm hs
      simp only [Bool.and_eq_true, beq_iff_eq, Bool.not_eq_true'] at q
      obtain ⟨⟨⟨⟨rfl, rfl⟩, hdel⟩, ht⟩, hdd⟩ := q
      obtain ⟨nm, bs, mro, ns, qn, hd, sn, sub, ab, col, del⟩ := cd
      dsimp only at hm hdel hdd
      subst hm hdel hdd
      have hsl : sl = #[k0, k1, k2, k3, some (.builtin "ValueError.__new__"), k5] := by
        obtain ⟨l⟩ := sl
        simp only at hs
        rw [hs]
      subst hsl
      exact ⟨nm, qn, ns, bs, bm, sn, sub, ab, col, dd, k0, k1, k2, k3, k5, ho, ht⟩
    · cases q
  · cases q
/-- what the written part says of such a class at C, of its __init__ at fI (text: qual, ps, body, scope) -/
structure Wx (prog : Program) (K : PySem.W.Frag) (C fI : Addr) (qual : Str) (params : Arguments) (body : List Stmt) (scope : Scope) : Prop where
  ok : exOk K C = true
  iC : findIn K (.ref C) "__init__" = some (some (.ref fI))
  tC : typeIn K (.ref fI) = some (.type "function")
  kC : keepIn K (.ref C) = true
  exC : subIn K (.ref C) (.type "BaseException") = some true
  veC : subIn K (.ref C) (.type "ValueError") = some true
  tyC : typeIn K (.ref C) = some (.type "type")
  sa : findIn K (.ref C) "__setattr__" = some (some (.builtin "object.__setattr__"))
  su : ks_superIn K C C "__init__" = some (some (.builtin "ValueError.__init__"))
  mr : mroIn K C (.ref C) = some true
  ho : nsIn K cStatics "thirdparty.any" = some none
  fn : ∃ oc od osl kV doc pm an cda ct cc ccl cdd vs ccs file tf cl cld csl, K.lookup fI = some ⟨oc, od, .func (ksFn "__init__" qual params body scope .none kV doc pm an (.ref cda) ct cc), osl⟩ ∧ codeIn K (.ref cda) qual = true ∧
    K.lookup cda = some ⟨ccl, cdd, .fields vs, ccs⟩ ∧ vs[2]? = some (.str file tf) ∧ ((prog.main.file : Str) == file) = true ∧ K.lookup cc = some ⟨cl, cld, .cell (some (.ref C)), csl⟩
theorem clsOf {K : PySem.W.Frag} {C : Addr} (q : exOk K C = true) : ∃ cd, clsIn K C = some cd ∧ refsVE cd.mro = true ∧ cd.hasDict = true ∧ ∃ oC, K.lookup C = some oC ∧ oC.data = .cls cd := by
  obtain ⟨nm, q, N, bs, bm, sn, sub, ab, col, dd, k0, k1, k2, k3, k5, hC, hbm⟩ := exOk_of q
  refine ⟨{ name := nm, bases := bs, mro := .ref C :: bm, ns := N, qualname := q, hasDict := true, slotNames := sn, subclasses := sub, abstract := ab, collection := col, hasDel := false }, by unfold clsIn; rw [hC] <;> rfl, hbm, rfl, _, hC, rfl⟩
section
variable {prog : Program} {w : World} {A : Around} {E : Value → Shared → Prop} {R : Result → Shared → Prop} {K : PySem.W.Frag} {C fI x t0 L cda cc : Addr} {qual : Str} {params : Arguments} {body : List Stmt} {scope : Scope} {hp : Heap} {g : Array GenState} {d : Drawn} {t : Nat} {os : OsState} {m mg mb : Str → Option Value}
/-- super().__init__(text) -/
theorem sup_step {oc od osl dV kV doc pm an ct ccl cdd vs ccs file tf cl cld csl} {txt : Str} {ar : Arg} {p0 p1 p2 p3 p4 p5 : Pos} {j : Nat} (ok : exOk K C = true)
    (su : ks_superIn K C C "__init__" = some (some (.builtin "ValueError.__init__"))) (mr : mroIn K C (.ref C) = some true) (ho : nsIn K cStatics "thirdparty.any" = some none) (veC : subIn K (.ref C) (.type "ValueError") = some true)
    (hf : K.lookup fI = some ⟨oc, od, .func (ksFn "__init__" qual params body scope dV kV doc pm an (.ref cda) ct cc), osl⟩)
    (hcode : K.lookup cda = some ⟨ccl, cdd, .fields vs, ccs⟩) (hvs : vs[2]? = some (.str file tf)) (hfile : ((prog.main.file : Str) == file) = true) (hcell : K.lookup cc = some ⟨cl, cld, .cell (some (.ref C)), csl⟩)
    (X : K.In hp) (hg : hp.Ns mainGlobals mg) (hb : hp.Ns builtinsNs mb) (hms : mg "super" = none) (hbs : mb "super" = some (.type "super")) (htop : (prog.main.scope.names.lookup ("super" : Str)).isSome = false)
    (hL : hp.Ns L m) (hv : m ar.arg = some (.ref x)) (hx : hp.get? x = some (excO C t0)) (hp1 : (params.posonlyargs ++ params.args).head? = some ar)
    (hks : scope.names.lookup ("super" : Str) = some .globalImplicit) (hkc : scope.names.lookup ("__class__" : Str) = some .free) (hka : scope.names.lookup ar.arg = some .local) (hk : scope.kind = .function)
    {pl : Sem Bool} (he : eval (.Call (.Attribute (.Call (.Name "super" p0) [] [] p1) "__init__" p2) [.Constant (.str txt) j p3] [] p4) (ksEnv qual scope L fI (.ref cda) cc) = (do
      let ov ← attributeBase (.Call (.Name "super" p0) [] [] p1) "__init__" (ksEnv qual scope L fI (.ref cda) cc) (eval (.Call (.Name "super" p0) [] [] p1) (ksEnv qual scope L fI (.ref cda) cc))
      standAt p2.atName
      let (f, first) ← holding [ov] (getMethod ov "__init__" pl)
      callWith p4 f first (backTo p4 (starEach [.Constant (.str txt) j p3] (ksEnv qual scope L fI (.ref cda) cc))) []))
    (hst : starEach [.Constant (.str txt) j p3] (ksEnv qual scope L fI (.ref cda) cc) = [(false, eval (.Constant (.str txt) j p3) (ksEnv qual scope L fI (.ref cda) cc))])
    (hi : interactive (ksEnv qual scope L fI (.ref cda) cc) = false) (hsw : swapsWith (.Call (.Attribute (.Call (.Name "super" p0) [] [] p1) "__init__" p2) [.Constant (.str txt) j p3] [] p4) none p5.line (ksEnv qual scope L fI (.ref cda) cc) = pure false)
    {Q : Flow → Shared → Prop} (hq : ∀ h' tk t1, (∀ b o, b ≠ x → hp.get? b = some o → h'.get? b = some o) → h'.get? x = some (excO C t1) → hp.objs.size ≤ h'.objs.size → Q .next ⟨h', g, d, tk, os⟩) :
    _root_.PySem.wpAt (model prog w) A (.func body (ksEnv qual scope L fI (.ref cda) cc)) (exec (.Expr (.Call (.Attribute (.Call (.Name "super" p0) [] [] p1) "__init__" p2) [.Constant (.str txt) j p3] [] p4) p5) (ksEnv qual scope L fI (.ref cda) cc)) Q E ⟨hp, g, d, t, os⟩ := by
  obtain ⟨cd, hcd, hmro, hdict, oD, hD0, hD2⟩ := clsOf ok
  have hD1 : hp.get? C = some oD := X _ _ hD0
  refine ks_wpAt_Expr_any (ks_wpAt_MethodCall (pl := pl) ?_ he) hi hsw
  refine ks_wpAt_super_base (env := ksEnv qual scope L fI (.ref cda) cc) hks hkc (by decide) rfl (X _ _ hf) rfl hp1 rfl (X _ _ hcode) rfl hvs hfile htop ?_
  refine ks_loadName_global hk hks (loadGlobal_builtin (env := ksEnv qual scope L fI (.ref cda) cc) hg hms hb hbs ⟨rfl, ?_⟩)
  refine wpAny_loadName_free hk hkc rfl ⟨_, X _ _ hcell, rfl⟩ ?_
  refine wpAny_loadName_local hk hka hL hv ?_
  refine ks_wpAny_isType_cls hD1 hD2 ⟨rfl, ?_⟩
  refine ks_wpAny_call_super hD1 hD2 hx rfl (fun c e => by cases e) (looks_mroIn X mr) (fun h1 e1 k1 => ?_)
  have X1 : K.In h1 := X.keeps k1
  have hx1 := k1 _ _ hx
  have I1 : InstAt h1 x (excO C t0) C none := ⟨hx1, rfl, rfl, trivial⟩
  unfold ks_superIn at su
  rw [hcd] at su
  refine kxs_getMethod kxs_ValueError e1 (looks_opaque X1 ho) (l₀ := cd.mro) (fun A Q E s k q => wpAny_bind ((looks_clsIn X1 hcd) A _ E s k (wpAny_pure q))) rfl X1 su (I1.type.andThen (looks_subIn X1 veC)) (ks_ne X1 I1 hcd) (by decide) ?_
  have hu : (h1.push (kxs_mw "ValueError.__init__" x)).get? h1.objs.size = some (kxs_mw "ValueError.__init__" x) := Heap.get?_push_at rfl rfl
  refine kxs_callWith (i := "ValueError.__init__") (x := x) (by rw [hst]; rfl) ?_
  refine evalArgs_plain ?_
  refine wpAny_items_cons (Calls.Constant_str ?_) hst
  refine Calls.spliced_nil ⟨hu, ?_⟩
  obtain ⟨nm, q, N, bs, bm, sn, sub, ab, col, dd, k0, k1', k2, k3, k5, hCK, hbm⟩ := exOk_of ok
  have up : ∀ b o, h1.get? b = some o → (h1.push (kxs_mw "ValueError.__init__" x)).get? b = some o := fun b o e => Heap.get?_push_of_some _ e
  have hC2 := up _ _ (X1 _ _ hCK)
  have hx2 := up _ _ hx1
  refine wpAny_call (codeAny_of_tree ?_)
  show wpAny _ A.in1 (callAny (.ref h1.objs.size) ⟨_, []⟩) _ _ _
  simp only [callAny]
  refine wpAny_bind (wpAny_load hu ?_)
  simp only [kxs_mw, show (Value.type "method-wrapper" == Value.type "method" || Value.type "method-wrapper" == Value.type "builtin_function_or_method" || Value.type "method-wrapper" == Value.type "method-wrapper") = true by decide, if_true]
  refine KFB.if_so (by decide) ?_
  refine wpAny_bind (check_bound_init F.excBase_ValueError.toExcCallFacts hC2 hx2 rfl ?_)
  refine wpAny_bind (wpAny_pure (wpAny_pure ?_))
  refine ⟨plainId_quiet F.excBase_ValueError.init.plain _, codeAny_builtin F.excBase_ValueError.initEntry ?_⟩
  refine exc_init_tree (cls := .ref C) (t0 := t0) (dv := none) (c2 := .none) (c3 := .none) (b4 := .bool false) hx2 (by rw [sizeLine_eq]; exact (by decide : 1 ≤ 16777216)) fun h' k e' t' => ?_
  refine hq h' _ _ (fun b o hb e => k b o hb (up b o (k1 b o e))) e' ?_
  have z := Heap.lt_size t'
  have z1 := Heap.lt_size e1
  exact Nat.le_of_lt (Nat.lt_trans z1 (Nat.lt_trans (by first | (rw [Heap.size_push]; exact Nat.lt_succ_self _) | simp) z))
end
abbrev sRefI : Stmt := sub 7 0
abbrev sNoI : Stmt := sub 8 0
theorem kept_but {K : PySem.W.Frag} {h h' : Heap} {x : Addr} (X : K.In h) (hx : K.lookup x = none) (k : ∀ b o, b ≠ x → h.get? b = some o → h'.get? b = some o) : K.In h' := fun a o e =>
  k a o (fun z => by rw [z, hx] at e; cases e) (X a o e)
theorem ns_keep {h h' : Heap} {L : Addr} {m : Str → Option Value} (n : h.Ns L m) (k : ∀ o, h.get? L = some o → h'.get? L = some o) : h'.Ns L m := by
  obtain ⟨o, es, ep, hL, r⟩ := n
  exact ⟨o, es, ep, k _ hL, r⟩
section
variable {prog : Program} {w : World} {A : Around} {E : Value → Shared → Prop} {R : Result → Shared → Prop} {K : PySem.W.Frag} {C fI x t0 : Addr} {qual : Str} {hp : Heap} {g : Array GenState} {d : Drawn} {t : Nat} {os : OsState} {mg mb : Str → Option Value}
/-- Refused.__init__ -/
theorem ref_init (T : Wx prog K C fI qual (defArgs sRefI) (defBody sRefI) (defScope sRefI)) (no : findIn K (.ref C) "deed" = some none) {v : Value} (X : K.In hp) (hlim : hp.NoLimit)
    (hg : hp.Ns mainGlobals mg) (hb : hp.Ns builtinsNs mb) (hms : mg "super" = none) (hbs : mb "super" = some (.type "super")) (htop : (prog.main.scope.names.lookup ("super" : Str)).isSome = false)
    (hx : hp.get? x = some (excO C t0)) (hnx : K.lookup x = none) (hroom : A.depth < recursionLimit)
    (hq : ∀ h' tk dx t1, (∀ b o, b ≠ x → hp.get? b = some o → h'.get? b = some o) → h'.get? x = some { cls := .ref C, dict := some dx, data := .fields #[.ref t1, .none, .none, .none, .bool false, .none] } → hp.objs.size ≤ dx → dx ≠ x →
      h'.Ns1 dx (fun y => if y = "deed" then some v else none) → R (.ok (.ret .none)) ⟨h', g, d, tk, os⟩) :
    codeAny (model prog w) A (.call (.ref fI) ⟨[.ref x, v], []⟩) R ⟨hp, g, d, t, os⟩ := by
  obtain ⟨oc, od, osl, kV, doc, pm, an, cda, ct, cc, ccl, cdd, vs, ccs, file, tf, cl, cld, csl, hf, hcd, hcode, hvs, hfile, hcell⟩ := T.fn
  have xsz := Heap.lt_size hx
  refine ks_codeAny_call_defAt (fd := ksFn "__init__" qual (defArgs sRefI) (defBody sRefI) (defScope sRefI) .none kV doc pm an (.ref cda) ct cc) (body := defBody sRefI) (binds := [("self", .ref x), ("deed", v)]) hroom (X _ _ hf) rfl hlim (codeRec_of X hcd) rfl
    (BindsTo.of_eq (by with_unfolding_all rfl)) (show ∀ x ∈ (defScope sRefI).names, x.2 ≠ .cell by decide +kernel) (fun y hy => by rcases List.mem_cons.mp hy with rfl | hy; (· rfl); (rcases List.mem_cons.mp hy with rfl | hy; (· rfl); (cases hy))) (fun h₁ hns hk₁ => ?_) rfl rfl rfl
  have X₁ : K.In h₁ := X.keeps hk₁
  have hx₁ := hk₁ _ _ hx
  refine ks_wpAt_execs_cons ?_
  refine sup_step (m := fun y => List.lookup y ([("self", Value.ref x), ("deed", v)] : List (Str × Value)).reverse) (ar := { arg := "self", annotation := none, pos := ⟨29, 17, 29, 21⟩ }) T.ok T.su T.mr T.ho T.veC hf hcode hvs hfile hcell X₁ (hg.keeps hk₁) (hb.keeps hk₁) hms hbs htop hns rfl hx₁ rfl rfl rfl rfl rfl rfl rfl rfl rfl fun h2 tk2 t1 k2 hx2 sz2 => ?_
  show _root_.PySem.wpAt _ _ _ _ _ _ _
  have X2 : K.In h2 := kept_but X₁ hnx k2
  have n2 : h2.Ns hp.objs.size _ := ns_keep hns fun o q => k2 _ _ (Nat.ne_of_gt xsz) q
  refine ks_wpAt_execs_cons (ks_wpAt_Assign_Attr ?_ rfl)
  refine wpAt_of_wpAny (wpAny_Name (wpAny_loadName_local (v := v) rfl rfl n2 rfl ?_) (by decide))
  refine wpAny_Name (wpAny_loadName_local (v := .ref x) rfl rfl n2 rfl ?_) (by decide)
  obtain ⟨cd, hcd2, hmro, hdict, _⟩ := clsOf T.ok
  refine set_plain X2 (ox := excO C t1) (od := none) ⟨hx2, rfl, rfl, trivial⟩ T.sa ?_
  refine exc_osa X2 hx2 hcd2 hmro hdict no (fun h3 tk3 dx k3 dn dne hx3 hn3 => ?_)
  refine wpAt_of_wpAny (wpAny_execs_nil ?_)
  have z : hp.objs.size < h₁.objs.size := hns.lt
  exact hq h3 tk3 dx t1 (fun b o hbx e => k3 b o hbx (k2 b o hbx (hk₁ b o e))) hx3 (Nat.le_of_lt (Nat.lt_of_lt_of_le z (Nat.le_trans sz2 dn))) dne hn3
/-- Nothing.__init__ -/
theorem no_init (T : Wx prog K C fI qual (defArgs sNoI) (defBody sNoI) (defScope sNoI)) (X : K.In hp) (hlim : hp.NoLimit)
    (hg : hp.Ns mainGlobals mg) (hb : hp.Ns builtinsNs mb) (hms : mg "super" = none) (hbs : mb "super" = some (.type "super")) (htop : (prog.main.scope.names.lookup ("super" : Str)).isSome = false)
    (hx : hp.get? x = some (excO C t0)) (hroom : A.depth < recursionLimit)
    (hq : ∀ h' tk t1, (∀ b o, b ≠ x → hp.get? b = some o → h'.get? b = some o) → h'.get? x = some (excO C t1) → R (.ok (.ret .none)) ⟨h', g, d, tk, os⟩) :
    codeAny (model prog w) A (.call (.ref fI) ⟨[.ref x], []⟩) R ⟨hp, g, d, t, os⟩ := by
  obtain ⟨oc, od, osl, kV, doc, pm, an, cda, ct, cc, ccl, cdd, vs, ccs, file, tf, cl, cld, csl, hf, hcd, hcode, hvs, hfile, hcell⟩ := T.fn
  refine ks_codeAny_call_defAt (fd := ksFn "__init__" qual (defArgs sNoI) (defBody sNoI) (defScope sNoI) .none kV doc pm an (.ref cda) ct cc) (body := defBody sNoI) (binds := [("self", .ref x)]) hroom (X _ _ hf) rfl hlim (codeRec_of X hcd) rfl
    (BindsTo.of_eq (by with_unfolding_all rfl)) (show ∀ x ∈ (defScope sNoI).names, x.2 ≠ .cell by decide +kernel) (fun y hy => by rcases List.mem_cons.mp hy with rfl | hy; (· rfl); (cases hy)) (fun h₁ hns hk₁ => ?_) rfl rfl rfl
  have X₁ : K.In h₁ := X.keeps hk₁
  have hx₁ := hk₁ _ _ hx
  refine ks_wpAt_execs_cons ?_
  refine sup_step (m := fun y => List.lookup y ([("self", Value.ref x)] : List (Str × Value)).reverse) (ar := { arg := "self", annotation := none, pos := ⟨34, 17, 34, 21⟩ }) T.ok T.su T.mr T.ho T.veC hf hcode hvs hfile hcell X₁ (hg.keeps hk₁) (hb.keeps hk₁) hms hbs htop hns rfl hx₁ rfl rfl rfl rfl rfl rfl rfl rfl rfl fun h2 tk2 t1 k2 hx2 sz2 => ?_
  show _root_.PySem.wpAt _ _ _ _ _ _ _
  refine wpAt_of_wpAny (wpAny_execs_nil ?_)
  exact hq h2 tk2 t1 (fun b o hbx e => k2 b o hbx (hk₁ b o e)) hx2
end
section
variable {prog : Program} {w : World} {A : Around} {R : Result → Shared → Prop} {K : PySem.W.Frag} {C fI : Addr} {qual : Str} {hp : Heap} {g : Array GenState} {dr : Drawn} {t : Nat} {os : OsState} {mg mb : Str → Option Value}
theorem ref_made (T : Wx prog K C fI qual (defArgs sRefI) (defBody sRefI) (defScope sRefI)) (no : findIn K (.ref C) "deed" = some none) {v : Value} (X : K.In hp) (hlim : hp.NoLimit)
    (hg : hp.Ns mainGlobals mg) (hb : hp.Ns builtinsNs mb) (hms : mg "super" = none) (hbs : mb "super" = some (.type "super")) (htop : (prog.main.scope.names.lookup ("super" : Str)).isSome = false) (hroom : A.depth + 1 < recursionLimit)
    (hq : ∀ h' tk e d t1, (∀ b o, hp.get? b = some o → h'.get? b = some o) → hp.objs.size ≤ e → hp.objs.size ≤ d → d ≠ e → h'.get? e = some { cls := .ref C, dict := some d, data := .fields #[.ref t1, .none, .none, .none, .bool false, .none] } →
      h'.Ns1 d (fun y => if y = "deed" then some v else none) → R (.ok (.ret (.ref e))) ⟨h', g, dr, tk, os⟩) :
    codeAny (model prog w) A (.call (.ref C) ⟨[v], []⟩) R ⟨hp, g, dr, t, os⟩ := by
  obtain ⟨nm, q, N, bs, bm, sn, sub, ab, col, dd, k0, k1, k2, k3, k5, hC, hbm⟩ := exOk_of T.ok
  have k : ∀ b o, hp.get? b = some o → ((hp.push (kdv_tup [v])).push (excO C hp.objs.size)).get? b = some o := fun b o e => Heap.get?_push_of_some _ (Heap.get?_push_of_some _ e)
  have hget : ((hp.push (kdv_tup [v])).push (excO C hp.objs.size)).get? (hp.objs.size + 1) = some (excO C hp.objs.size) := by heap_get
  have hnx : K.lookup (hp.objs.size + 1) = none := by
    cases e : K.lookup (hp.objs.size + 1) with
    | none => rfl
    | some o =>
      have z : hp.get? (hp.objs.size + 1) = some o := X _ _ e
      exact absurd (Nat.lt_of_succ_lt (Heap.lt_size z)) (Nat.lt_irrefl _)
  refine call_own F.excBase_ValueError (fun X => refsVE_contains X bm hbm) (X _ _ hC) (looks_findIn X T.iC) (fun self => bind_fn X self T.tC) (by rw [sizeLine_eq]; exact (by decide : 1 ≤ 16777216)) ?_
  refine ref_init T no (X.keeps k) (hlim.keeps k) (hg.keeps k) (hb.keeps k) hms hbs htop hget hnx hroom fun h' tk' dx t1 k' hx dn dne hns => ?_
  have old : ∀ b o, hp.get? b = some o → h'.get? b = some o := fun b o e => k' b o (Nat.ne_of_lt (Nat.lt_succ_of_lt (Heap.lt_size e))) (k b o e)
  have z : hp.objs.size + 1 + 1 ≤ dx := by
    first
      | (simpa only [Heap.size_push] using dn)
      | exact dn
      | (have q := dn; rw [Heap.size_push, Heap.size_push] at q; exact q)
  exact ⟨rfl, hq h' tk' (hp.objs.size + 1) dx t1 old (Nat.le_succ _) (Nat.le_trans (Nat.le_trans (Nat.le_succ _) (Nat.le_succ _)) z) dne hx hns⟩
theorem no_made (T : Wx prog K C fI qual (defArgs sNoI) (defBody sNoI) (defScope sNoI)) (X : K.In hp) (hlim : hp.NoLimit)
    (hg : hp.Ns mainGlobals mg) (hb : hp.Ns builtinsNs mb) (hms : mg "super" = none) (hbs : mb "super" = some (.type "super")) (htop : (prog.main.scope.names.lookup ("super" : Str)).isSome = false) (hroom : A.depth + 1 < recursionLimit)
    (hq : ∀ h' tk e t1, (∀ b o, hp.get? b = some o → h'.get? b = some o) → hp.objs.size ≤ e → h'.get? e = some (excO C t1) → R (.ok (.ret (.ref e))) ⟨h', g, dr, tk, os⟩) :
    codeAny (model prog w) A (.call (.ref C) ⟨[], []⟩) R ⟨hp, g, dr, t, os⟩ := by
  obtain ⟨nm, q, N, bs, bm, sn, sub, ab, col, dd, k0, k1, k2, k3, k5, hC, hbm⟩ := exOk_of T.ok
  have k : ∀ b o, hp.get? b = some o → ((hp.push (kdv_tup [])).push (excO C hp.objs.size)).get? b = some o := fun b o e => Heap.get?_push_of_some _ (Heap.get?_push_of_some _ e)
  have hget : ((hp.push (kdv_tup [])).push (excO C hp.objs.size)).get? (hp.objs.size + 1) = some (excO C hp.objs.size) := by heap_get
  refine call_own F.excBase_ValueError (fun X => refsVE_contains X bm hbm) (X _ _ hC) (looks_findIn X T.iC) (fun self => bind_fn X self T.tC) (by rw [sizeLine_eq]; exact (by decide : 0 ≤ 16777216)) ?_
  refine no_init T (X.keeps k) (hlim.keeps k) (hg.keeps k) (hb.keeps k) hms hbs htop hget hroom fun h' tk' t1 k' hx => ?_
  have old : ∀ b o, hp.get? b = some o → h'.get? b = some o := fun b o e => k' b o (Nat.ne_of_lt (Nat.lt_succ_of_lt (Heap.lt_size e))) (k b o e)
  exact ⟨rfl, hq h' tk' (hp.objs.size + 1) t1 old (Nat.le_succ _) hx⟩
end
end Sw
namespace Sw
open PySem PySem.Spec PyProof.Rows L2
theorem relO_one {n : Str} {v : V} {v' : Value} (r : RelV v v') (f : Str) : RelO (List.lookup f [(n, v)]) (if f = n then some v' else none) := by
  by_cases hw : f = n
  · subst hw
    rw [if_pos rfl]
    have q : List.lookup f [(f, v)] = some v := by simp [List.lookup]
    rw [q]
    exact r
  · rw [if_neg hw]
    have qw : (f == n) = false := by simpa using hw
    have q2 : List.lookup f [(n, v)] = none := by simp [List.lookup, qw]
    rw [q2]
    trivial
section
variable {X : Cx} {C fI : Addr} {qual : Str}
/-- Refused(e) -/
def tMkRef (C : Addr) (ta : TA) : L2.St → Hp → XK → Prop := fun σ H Q => ta σ H fun vs H1 => ∃ v, vs = [v] ∧ ∀ d, H1 d = none → Q (.ref C) (some d) (upd H1 d (.xd [(("deed" : Str), v)]))
theorem pmk_ref {a : Expr} {ta : TA} {p pos : Pos} {k : Nat} (T : Wx X.prog X.K C fI qual (defArgs sRefI) (defBody sRefI) (defScope sRefI)) (no : PySem.W.findIn X.K (.ref C) "deed" = some none) (gC : X.mg "Refused" = some (.ref C)) (gs : X.mg "super" = none)
    (htop : (X.prog.main.scope.names.lookup ("super" : Str)).isSome = false) (hr : Room k X.A) (h1k : 1 ≤ k) (ha : PA X [a] ta) (hg : Gl X "Refused" := by rfl)
    (he : starEach (a :: []) X.env = (false, eval a X.env) :: starEach [] X.env := by rfl) (hpl : (backTo pos (starEach [] X.env)).any (·.1) = false := by rfl) :
    PMk X (.Call (.Name "Refused" p) [a] [] pos) (tMkRef C ta) := by
  intro pins s σ H Q I h
  refine wpAny_Call_Name_kw (ld_glob I hg gC ?_)
  refine PySem.W.callWith_K (h₀ := X.base) I.ok.mod.kin T.kC (thn (ha.run pos pins s σ H _ I h) fun us s1 hh => ?_) he hpl
  obtain ⟨vs, H1, I1, r1, v, ev, q1⟩ := hh
  subst ev
  refine ⟨I1.kIn, ?_⟩
  cases r1 with
  | cons rv rn =>
    rename_i v' us'
    cases rn
    show wpAny _ _ (call (.ref C) [v']) _ _ _
    have hlim := I1.nolimit
    obtain ⟨mb, b1, b2⟩ := I1.mod.blt
    have g1 := I1.mod.glob.keeps I1.bk
    have b1' := b1.keeps I1.bk
    have bs : mb "super" = some (.type "super") := (b2 "super" (by decide)).trans (by boot_by_name)
    obtain ⟨hp, g, dr, tk, os⟩ := s1
    refine wpAny_call (ref_made T no I1.kIn hlim g1 b1' gs bs htop (by have := hr.dp; omega) fun h' tk' e d t1 old new dbig dne hoe hns => ?_)
    show MkP X pins σ Q (.ref e) ⟨h', g, dr, tk', os⟩
    obtain ⟨G', g1, g2⟩ := restrict h' fun b => decide (b ≠ e)
    have gk : ∀ b, b ≠ e → G'.get? b = h'.get? b := fun b hb => g1 b (decide_eq_true hb)
    have ge : G'.get? e = none := g2 e (by simp)
    have old' : ∀ b o, hp.get? b = some o → G'.get? b = some o := fun b o q => (gk b (Nat.ne_of_lt (Nat.lt_of_lt_of_le (Heap.lt_size q) new))).trans (old b o q)
    have ob : ObjOk X.prog X.w (upd H1 d (.xd [(("deed" : Str), v)])) G' d (.xd [(("deed" : Str), v)]) :=
      ⟨_, hns.at (fun o q => (gk d dne).trans q), fun f => relO_one rv f⟩
    have J : Inv X pins σ (upd H1 d (.xd [(("deed" : Str), v)])) ⟨G', g, dr, tk', os⟩ := I1.laid (t' := tk') old' dbig ob
    refine ⟨e, _, _, ⟨G', g, dr, tk', os⟩, _, .ref C, some d, rfl, J, fun b o q => ?_, ge, hoe, ⟨rfl, rfl⟩, rfl, rfl, ?_, rfl, I1.bare, raises_own T.exC T.tyC, q1 d (I1.hok.fresh dbig)⟩
    · by_cases hb : b = e
      · have q' : G'.get? b = some o := q
        rw [hb, ge] at q'; cases q'
      · exact (gk b hb).symm.trans q
    · rw [upd_ne (Ne.symm dne)]
      exact I1.hok.fresh new
/-- Nothing() -/
def tMkNo (C : Addr) : L2.St → Hp → XK → Prop := fun _ H Q => Q (.ref C) none H
theorem pmk_no {p pos : Pos} {k : Nat} (T : Wx X.prog X.K C fI qual (defArgs sNoI) (defBody sNoI) (defScope sNoI)) (gC : X.mg "Nothing" = some (.ref C)) (gs : X.mg "super" = none)
    (htop : (X.prog.main.scope.names.lookup ("super" : Str)).isSome = false) (hr : Room k X.A) (h1k : 1 ≤ k) (hg : Gl X "Nothing" := by rfl) :
    PMk X (.Call (.Name "Nothing" p) [] [] pos) (tMkNo C) := by
  intro pins s σ H Q I h
  refine wpAny_Call_Name_kw (ld_glob I hg gC ?_)
  refine PySem.W.callWith_K0 I.kIn T.kC ?_
  show wpAny _ _ (call (.ref C) []) _ _ _
  have hlim := I.nolimit
  obtain ⟨mb, b1, b2⟩ := I.mod.blt
  have g1 := I.mod.glob.keeps I.bk
  have b1' := b1.keeps I.bk
  have bs : mb "super" = some (.type "super") := (b2 "super" (by decide)).trans (by boot_by_name)
  obtain ⟨hp, g, dr, tk, os⟩ := s
  refine wpAny_call (no_made T I.kIn hlim g1 b1' gs bs htop (by have := hr.dp; omega) fun h' tk' e t1 old new hoe => ?_)
  show MkP X pins σ Q (.ref e) ⟨h', g, dr, tk', os⟩
  obtain ⟨G', g1, g2⟩ := restrict h' fun b => decide (b ≠ e)
  have gk : ∀ b, b ≠ e → G'.get? b = h'.get? b := fun b hb => g1 b (decide_eq_true hb)
  have ge : G'.get? e = none := g2 e (by simp)
  have old' : ∀ b o, hp.get? b = some o → G'.get? b = some o := fun b o q => (gk b (Nat.ne_of_lt (Nat.lt_of_lt_of_le (Heap.lt_size q) new))).trans (old b o q)
  have J : Inv X pins σ H ⟨G', g, dr, tk', os⟩ := I.kept (t' := tk') old'
  refine ⟨e, _, _, ⟨G', g, dr, tk', os⟩, _, .ref C, none, rfl, J, fun b o q => ?_, ge, hoe, ⟨rfl, rfl⟩, rfl, rfl, I.hok.fresh new, rfl, I.bare, raises_own T.exC T.tyC, h⟩
  by_cases hb : b = e
  · have q' : G'.get? b = some o := q
    rw [hb, ge] at q'; cases q'
  · exact (gk b hb).symm.trans q
end
end Sw
namespace Sw
open PySem PySem.Spec PyProof.Rows
section
open PySem.W PySem.Calls
variable {prog : Program} {w : World} {A : Around} {E : Value → Shared → Prop} {s : Shared} {K : PySem.W.Frag} {x D : Addr} {ox : Obj} {od : Option Obj}
theorem fo_data {C : Addr} {name : Str} {a g : Value} (hc : (clsIn K C).isSome = true) (ha : findIn K (.ref C) name = some (some a)) (hg : specialIn K a "__get__" = some (some g)) (ht : takesIn K a = some true) : findObj K C od name = some (.bind g a) := by
  obtain ⟨cd, hc2⟩ := Option.isSome_iff_exists.mp hc
  unfold findObj
  rw [hc2, Option.bind_some, ha, Option.bind_some]
  simp [hg, ht]
/-- e.__class__ of an exception that may have its dict -/
theorem cls_exc {Q : Option Value → Shared → Prop} (C : L2.ExcC K D) (X : K.In s.heap) (I : InstAt s.heap x ox D od) (h : Q (some (.ref D)) { s with toks := s.toks + 1 }) : wpAny (model prog w) A (getAttr? (.ref x) "__class__") Q E s := by
  have hf : findObj K D od "__class__" = some (.bind (.builtin "getset_descriptor.__get__") (.builtin "object.__class__")) := fo_data (by obtain ⟨cd, hc, _⟩ := any_some C.hd; rw [hc]; rfl) C.ha C.hn C.ht
  obtain ⟨hp, g, d, t, os⟩ := s
  have l0 := I.type (M := model prog w)
  have l1 := looks_findIn (M := model prog w) X C.hg
  have l2 := looks_findIn (M := model prog w) X C.hk
  have l3 := looks_find (M := model prog w) X I hf
  have isb : Looks (model prog w) hp (isInstance (.ref x) (.type "BaseException")) true := l0.andThen (looks_subIn X C.hs)
  have n1 : (Value.builtin "BaseException.__getattribute__" == Value.builtin "object.__getattribute__") = false := by decide +kernel
  have n2 : (onTheHeap (Value.ref D) && Value.builtin "BaseException.__getattribute__" == Value.builtin "object.__getattribute__") = false := by rw [n1]; rfl
  have n0 : (false && onTheHeap (Value.builtin "BaseException.__getattribute__")) = false := rfl
  unfold getAttr? getAttrBy? getAttrBy
  refine wpAny_bind (wpAny_mkText (wpAny_bind (wpAny_attempt (wpAny_holding (wpAny_bind (l0.at (wpAny_bind (l1.at ?_))))))))
  show wpAny _ _ (if (onTheHeap (Value.ref D) && Value.builtin "BaseException.__getattribute__" == Value.builtin "object.__getattribute__") = true then _ else _) _ _ _
  rw [n2, if_neg Bool.false_ne_true]; unfold getAttrByItsOwn hookBefore
  refine wpAny_bind ?_
  rw [if_pos (show onTheHeap (Value.ref D) = true from rfl)]; refine l2.at ?_
  refine wpAny_bind (wpAny_attempt (wpAny_holding ?_)); unfold callGetattribute
  rw [n0, if_neg Bool.false_ne_true]; unfold boundAndCalled
  rw [PySem.F.excAttr_ValueError.ga.bind (.ref x)]; refine wpAny_bind (wpAny_pure ?_)
  show wpAny _ _ (call (.builtin "BaseException.__getattribute__") [.ref x, .str "__class__" t]) _ _ _
  refine wpAny_call (codeAny_call_builtin PySem.F.excAttr_ValueError.ga.plain PySem.F.entry_bexc_ga ?_)
  refine @check_slot (model prog w) _ _ ⟨hp, g, d, t + 1, os⟩ "BaseException.__getattribute__" "BaseException" "__getattribute__" (.ref x) [.str "__class__" t] [] _ (by decide +kernel) (by decide +kernel) isb (PySem.F.args_bexc_ga (.ref x) (.str "__class__" t)) ?_
  unfold Builtin.«object.__getattribute__»
  refine wpAny_bind (wpAny_of_eq (a := ((Value.ref x : Value), [Value.str "__class__" t])) (by first | rfl | (simp only [slotArgs]; rfl)) ?_)
  refine wpAny_bind (wpAny_pure (wpAny_bind (l0.at (wpAny_bind (l3.at ?_)))))
  show wpAny _ _ (holding [Value.builtin "object.__class__"] (call (.builtin "getset_descriptor.__get__") [.builtin "object.__class__", .ref x, .ref D]) >>= ret) _ _ _
  refine wpAny_bind (wpAny_holding (wpAny_call (class_get (s := ⟨hp, g, d, t + 1, os⟩) (ox := ox) (od := od) X I C.hm ?_)))
  refine wpAny_pure ?_
  show wpAny _ _ (handedOut (.ref D)) _ _ _
  rw [handedOut_of (v := .ref D) rfl]
  first
    | exact wpAny_pure (wpAny_pure h)
    | exact wpAny_pure h
    | exact wpAny_pure (wpAny_bind (wpAny_pure (wpAny_pure h)))
theorem kit_exc (C : L2.ExcC K D) : KitX K (.ref x) (.ref D) (fun h => InstAt h x ox D od) where
  ty := fun _ _ _ I => I.type
  it := fun _ _ X _ => by
    obtain ⟨cdD, hcD, _⟩ := any_some C.hd
    unfold clsIn at hcD
    split at hcD
    · rename_i c' d' cd' sl' ho
      intro A' Q' E' s' k q
      unfold isType loadHead
      exact wpAny_bind (wpAny_loadPart (k _ _ (X _ _ ho)) (wpAny_pure q))
    · cases hcD
  ne := fun h tp dd its n sl X htp => by
    obtain ⟨cdD, hcD, _⟩ := any_some C.hd
    refine Bool.eq_false_iff.mpr fun q => ?_
    have e : D = tp := Value.ref.inj (beq_iff_eq.mp q)
    subst e
    unfold clsIn at hcD
    split at hcD
    · rename_i c' d' cd' sl' ho
      have z := (X _ _ ho).symm.trans htp
      cases z
    · cases hcD
  ca := fun X I k => cls_exc C X I k
end
open L2
/-- isinstance(e, c), e the exception that the suite holds, its dict at d -/
def rIsD (K : PySem.W.Frag) (D a : Addr) (d : Option Addr) : List V → Hp → VK → Prop := fun xs H Q => ∃ (c : V) (cv : Value) (b : Bool), xs = [.ref a, c] ∧ (∀ u, RelV c u → u = cv) ∧ PySem.W.kitOne K (.ref D) cv = some b ∧ (∀ dd, d = some dd → ∃ fs, H dd = some (.xd fs)) ∧ Q (.bl b) H
theorem call_isD {X : Cx} {a D : Addr} {oe : Obj} {d : Option Addr} {pn : List (Addr × Obj)} (C : ExcC X.K D) (hz : Zc (.ref D) d oe) (hf : ∃ vs, oe.data = .fields vs) : CallR (X.suite a ((a, oe) :: pn)) (.builtin "isinstance") (rIsD X.K D a d) := by
  intro pins s σ H xs us Q I r h
  obtain ⟨c, cv, b, rfl, hcv, e, hd, q⟩ := h
  obtain ⟨u1, u2, rfl, rx, rt⟩ := vals2 r
  cases rx
  have ec := hcv _ rt
  subst ec
  obtain ⟨hget, _⟩ := I.pin (a, oe) (List.mem_append.mpr (.inl List.mem_cons_self))
  obtain ⟨vs, hv⟩ := hf
  have J : ∃ od, PySem.W.InstAt s.heap a oe D od := by
    cases d with
    | none =>
      refine ⟨none, hget, hz.1, by unfold PySem.W.notCls; rw [hv] <;> rfl, ?_⟩
      rw [hz.2]; trivial
    | some dd =>
      obtain ⟨fs, hx⟩ := hd dd rfl
      obtain ⟨mA, hns, _⟩ : ObjOk X.prog X.w H s.heap dd (.xd fs) := I.hok dd _ hx
      obtain ⟨od, ho, _⟩ := lookIn_ns hns
      exact ⟨some od, hget, hz.1, by unfold PySem.W.notCls; rw [hv] <;> rfl, by rw [hz.2]; exact ho⟩
  obtain ⟨od, J⟩ := J
  exact PySem.W.kia_one (kit_exc C) I.kIn J e (fun z => nomatch z) fun tk => ⟨.bl b, H, I.kept (t' := tk) fun _ _ z => z, rfl, q⟩
end Sw
namespace Sw
open PySem PySem.Spec PyProof.Rows L2
open SX (S S_cat S_len S_inj)
/-! ## texts by their signs: the rules again -/
def cutL {α : Type} (a : List α) (lo hi : Option Int) : List α := (a.drop (HT.sIx a.length 0 lo)).take (HT.sIx a.length a.length hi - HT.sIx a.length 0 lo)
theorem cutS_S (a : List Nat) (lo hi : Option Int) : cutS (S a) lo hi = S (cutL a lo hi) := by
  unfold cutS cutL
  rw [S_len]
theorem cutV_L (a : List V) (lo hi : Option Int) : cutV a lo hi = cutL a lo hi := rfl
theorem cutL_to {α : Type} (a : List α) {k : Int} (h : 0 ≤ k) : cutL a none (some k) = a.take k.toNat := by
  unfold cutL HT.sIx
  simp only [if_neg (Int.not_lt.mpr h), List.drop_zero, Nat.sub_zero]
  by_cases c : k.toNat ≤ a.length
  · rw [Nat.min_eq_left c]
  · rw [Nat.min_eq_right (Nat.le_of_lt (Nat.lt_of_not_le c)), List.take_of_length_le (Nat.le_refl _), List.take_of_length_le (Nat.le_of_lt (Nat.lt_of_not_le c))]
theorem cutL_from {α : Type} (a : List α) {k : Int} (h : 0 ≤ k) : cutL a (some k) none = a.drop k.toNat := by
  unfold cutL HT.sIx
  simp only [if_neg (Int.not_lt.mpr h)]
  by_cases c : k.toNat ≤ a.length
  · rw [Nat.min_eq_left c, List.take_of_length_le (by rw [List.length_drop]; exact Nat.le_refl _)]
  · rw [Nat.min_eq_right (Nat.le_of_lt (Nat.lt_of_not_le c)), Nat.sub_self, List.take_zero, List.drop_of_length_le (Nat.le_of_lt (Nat.lt_of_not_le c))]
theorem len_lit {a : List Nat} {n : Nat} (h : a.length ≤ n) (hn : n ≤ 1000000) : (S a).length ≤ sizeLine := by
  rw [S_len]
  exact Nat.le_trans (Nat.le_trans h hn) (by decide)
section
variable {X : Cx} {a b e o : Expr} {es : List Expr} {ta tb te to : TE} {t : TA} {pos : Pos}
theorem pe_lit {x : Str} {l : List Nat} {j pos} (h : x = S l) : PE X (.Constant (.str x) j pos) (tC (.str (S l))) := by
  subst h
  exact pe_str
theorem pe_gs {x : Str} {v : V} {pos : Pos} (hg : Gl X x) (h : ∃ u, X.mg x = some u ∧ RelV v u) (hd : (x == ("__debug__" : Str)) = false := by decide) : PE X (.Name x pos) (tC v) := by
  obtain ⟨u, e, r⟩ := h
  exact pe_glob hg e r hd
def rCatX : R2 := fun x y H Q => ∃ a b : List Nat, x = .str (S a) ∧ y = .str (S b) ∧ a.length + b.length ≤ 1000000 ∧ Q (.str (S (a ++ b))) H
theorem op_catX : OpR X (binaryOp .Add) rCatX := by
  intro pins s σ H x y v u Q I rx ry h
  obtain ⟨a, b, rfl, rfl, hl, q⟩ := h
  refine op_add_str pins s σ H _ _ v u Q I rx ry ⟨S a, S b, rfl, rfl, ?_, ?_⟩
  · rw [S_len, S_len]
    exact Nat.le_trans hl (by decide)
  · rw [S_cat]
    exact q
def rIxX : R2 := fun x y H Q => ∃ (a : List Nat) (i : Int) (c : Nat), x = .str (S a) ∧ y = .int i ∧ a.length ≤ 1000000 ∧ atI a i = some c ∧ Q (.str (S [c])) H
theorem ix_x : IxR X rIxX := by
  intro value slice pins s σ H x y v u Q I rx ry h hs
  obtain ⟨a, i, c, rfl, rfl, hl, e, q⟩ := h
  exact ix_str value slice pins s σ H _ _ v u Q I rx ry ⟨S a, i, c, rfl, rfl, len_lit hl (Nat.le_refl _), e, q⟩ hs
def rLenX : List V → Hp → VK → Prop := fun xs H Q => ∃ a : List Nat, xs = [.str (S a)] ∧ a.length ≤ 1000000 ∧ Q (.int a.length) H
theorem call_lenX : CallR X (.builtin "len") rLenX := by
  intro pins s σ H xs us Q I r h
  obtain ⟨a, rfl, hl, q⟩ := h
  refine call_len_str pins s σ H _ us Q I r ⟨S a, rfl, len_lit hl (Nat.le_refl _), ?_⟩
  rw [S_len]
  exact q
def rSlX : V → Option Int → Option Int → Hp → VK → Prop := fun x lo hi H Q => ∃ a : List Nat, x = .str (S a) ∧ a.length ≤ 1000000 ∧ Q (.str (S (cutL a lo hi))) H
theorem sl_x : SlR X rSlX := by
  intro pins s σ H x v vl vu lo hi sl Q I rx hs pl pu h
  obtain ⟨a, rfl, hl, q⟩ := h
  refine sl_str pins s σ H _ v vl vu lo hi sl Q I rx hs pl pu ⟨S a, rfl, len_lit hl (Nat.le_refl _), ?_⟩
  rw [cutS_S]
  exact q
def rInX : R2 := fun x y H Q => ∃ (c : Nat) (a : List Nat), x = .str (S [c]) ∧ y = .str (S a) ∧ Q (.bl (decide (c ∈ a))) H
theorem op_inX : OpR X (compareOp .In) rInX := by
  intro pins s σ H x y v u Q I rx ry h
  obtain ⟨c, a, rfl, rfl, q⟩ := h
  exact op_in_sign pins s σ H _ _ v u Q I rx ry ⟨c, S a, rfl, rfl, q⟩
theorem dec_S {a b : List Nat} : decide (V.str (S a) = V.str (S b)) = decide (a = b) := by
  by_cases h : a = b
  · subst h; simp
  · have : V.str (S a) ≠ V.str (S b) := fun z => h (S_inj (V.str.inj z))
    simp [h]
def rEqX : R2 := fun x y H Q => ∃ a b : List Nat, x = .str (S a) ∧ y = .str (S b) ∧ Q (.bl (decide (a = b))) H
theorem op_eqX : OpR X (compareOp .Eq) rEqX := by
  intro pins s σ H x y v u Q I rx ry h
  obtain ⟨a, b, rfl, rfl, q⟩ := h
  refine op_eq pins s σ H _ _ v u Q I rx ry ⟨rfl, ?_⟩
  rw [dec_S]
  exact q
def rNeX : R2 := fun x y H Q => ∃ a b : List Nat, x = .str (S a) ∧ y = .str (S b) ∧ Q (.bl (!decide (a = b))) H
theorem op_neX : OpR X (compareOp .NotEq) rNeX := by
  intro pins s σ H x y v u Q I rx ry h
  obtain ⟨a, b, rfl, rfl, q⟩ := h
  refine op_ne pins s σ H _ _ v u Q I rx ry ⟨rfl, ?_⟩
  rw [dec_S]
  exact q
theorem dec_I {i j : Int} : decide (V.int i = V.int j) = decide (i = j) := by
  by_cases h : i = j
  · subst h; simp
  · have : V.int i ≠ V.int j := fun z => h (V.int.inj z)
    simp [h]
abbrev rEqI : R2 := rI0 fun i j => .bl (decide (i = j))
theorem op_eqI : OpR X (compareOp .Eq) rEqI := by
  intro pins s σ H x y v u Q I rx ry h
  obtain ⟨i, j, rfl, rfl, q⟩ := h
  refine op_eq pins s σ H _ _ v u Q I rx ry ⟨rfl, ?_⟩
  rw [dec_I]
  exact q
abbrev rNeI : R2 := rI0 fun i j => .bl (!decide (i = j))
theorem op_neI : OpR X (compareOp .NotEq) rNeI := by
  intro pins s σ H x y v u Q I rx ry h
  obtain ⟨i, j, rfl, rfl, q⟩ := h
  refine op_ne pins s σ H _ _ v u Q I rx ry ⟨rfl, ?_⟩
  rw [dec_I]
  exact q
abbrev rAddI : R2 := rI0 fun i j => .int (i + j)
abbrev rSubI : R2 := rI0 fun i j => .int (i - j)
abbrev rMulI : R2 := rI CMul fun i j => .int (i * j)
abbrev rModI : R2 := rI (fun _ j => 0 < j) fun i j => .int (i % j)
abbrev rDivI : R2 := rI CDiv fun i j => .int (i / j)
abbrev rPowI : R2 := rI CPow fun i j => .int (i ^ j.toNat)
abbrev rLtI : R2 := rI0 fun i j => .bl (decide (i < j))
abbrev rLeI : R2 := rI0 fun i j => .bl (decide (i ≤ j))
abbrev rGtI : R2 := rI0 fun i j => .bl (decide (j < i))
abbrev rGeI : R2 := rI0 fun i j => .bl (decide (j ≤ i))
/-- ''.join(list) -/
theorem join0 : ∀ ys : List (List Nat), TL.joinL [] ys = ys.flatten
  | [] => rfl
  | [p] => by simp [TL.joinL]
  | p :: q :: r => by
    rw [TL.joinL, join0 (q :: r)]
    simp
def rJoinX (K : PySem.W.Frag) : V → List V → Hp → VK → Prop := fun x xs H Q => ∃ (p : Addr) (ys : List (List Nat)), x = .str (S []) ∧ xs = [.ref p] ∧ SqL K H p (ys.map fun l => V.str (S l)) ∧ (ys.map (·.length)).sum ≤ 1000000 ∧ Q (.str (S ys.flatten)) H
theorem mt_joinX : MtR X "str.join" (rJoinX X.K) := by
  intro pins s σ H x xs v us Q I rx rs h
  obtain ⟨p, ys, rfl, rfl, hp, hz, q⟩ := h
  refine mt_join pins s σ H _ _ v us Q I rx rs ⟨S [], p, ys.map S, rfl, rfl, .inl (by rw [List.map_map]; exact hp), ?_, ?_⟩
  · rw [SX.lens]
    show (ys.map (·.length)).sum + (ys.map S).length * 0 ≤ 16777216
    omega
  · rw [SX.join_S, join0]
    exact q
theorem pe_joinX {apos pos : Pos} (ho : PE X o to) (he : PE X e te) (hs : starEach [e] X.env = [(false, eval e X.env)] := by rfl) (hbase : attributeBase o "join" X.env (eval o X.env) = eval o X.env := by rfl) (hline : (apos.endLine == pos.line) = true := by rfl) :
    PE X (.Call (.Attribute o "join" apos) [e] [] pos) (tM1 (rJoinX X.K) to te) := pe_m1 F.slot_str_join F.type_str_join mt_joinX ho he hs hbase hline
/-- int of a figure -/
def rDig : List V → Hp → VK → Prop := fun xs H Q => ∃ c : Nat, xs = [.str (S [c])] ∧ 48 ≤ c ∧ c ≤ 57 ∧ Q (.int ((c : Int) - 48)) H
theorem dig_val {c : Nat} (h1 : 48 ≤ c) (h2 : c ≤ 57) : intText? (S [c]) = some ((c : Int) - 48) := by
  have e := SX.int_S (a := [c]) (by simp [h1, h2]) (by simp) (by simp)
  rw [e]
  have : c = 48 ∨ c = 49 ∨ c = 50 ∨ c = 51 ∨ c = 52 ∨ c = 53 ∨ c = 54 ∨ c = 55 ∨ c = 56 ∨ c = 57 := by omega
  rcases this with rfl | rfl | rfl | rfl | rfl | rfl | rfl | rfl | rfl | rfl <;> rfl
theorem call_dig : CallR X (.type "int") rDig := by
  intro pins s σ H xs us Q I r h
  obtain ⟨c, rfl, h1, h2, q⟩ := h
  exact call_int_str pins s σ H _ us Q I r ⟨S [c], _, rfl, dig_val h1 h2, by rw [S_len]; show (1 : Nat) ≤ 640; decide, q⟩
/-- str of 0, 1 -/
def rStrB : List V → Hp → VK → Prop := fun xs H Q => ∃ b : Bool, xs = [.int (if b then 1 else 0)] ∧ Q (.str (S [if b then 49 else 48])) H
theorem call_strB : CallR X (.type "str") rStrB := by
  intro pins s σ H xs us Q I r h
  obtain ⟨b, rfl, q⟩ := h
  refine call_str_int pins s σ H _ us Q I r ⟨_, rfl, ?_, ?_⟩
  · cases b <;> decide
  · cases b
    · have e : (toString (if false = true then (1 : Int) else 0) : Str) = S [48] := by decide +kernel
      rw [e]; exact q
    · have e : (toString (if true = true then (1 : Int) else 0) : Str) = S [49] := by decide +kernel
      rw [e]; exact q
abbrev rLenQ (K : PySem.W.Frag) : List V → Hp → VK → Prop := fun xs H Q => ∃ p ys, xs = [.ref p] ∧ (SqL K H p ys ∨ SqT K H p ys) ∧ Q (.int ys.length) H
abbrev rListQ (K : PySem.W.Frag) : List V → Hp → VK → Prop := fun xs H Q => ∃ p ys, xs = [.ref p] ∧ (SqL K H p ys ∨ SqT K H p ys) ∧ ∀ l, H l = none → Q (.ref l) (upd H l (.lst ys))
abbrev rAbsI : List V → Hp → VK → Prop := fun xs H Q => ∃ i, xs = [.int i] ∧ Q (.int (if i < 0 then -i else i)) H
abbrev rMin2 : List V → Hp → VK → Prop := fun xs H Q => ∃ i j, xs = [.int i, .int j] ∧ Q (.int (if j < i then j else i)) H
def rIntI : List V → Hp → VK → Prop := fun xs H Q => ∃ i, xs = [.int i] ∧ Q (.int i) H
theorem call_intI : CallR X (.type "int") rIntI := fun pins s σ H xs us Q I r h => call_int1 pins s σ H xs us Q I r (.inl h)
def rIntB : List V → Hp → VK → Prop := fun xs H Q => ∃ b, xs = [.bl b] ∧ Q (.int (if b then 1 else 0)) H
theorem call_intB : CallR X (.type "int") rIntB := fun pins s σ H xs us Q I r h => call_int1 pins s σ H xs us Q I r (.inr h)
abbrev rIns : V → List V → Hp → VK → Prop := fun x vs H Q => ∃ (l : Addr) (xs : List V) (i : Int) (y : V), x = .ref l ∧ vs = [.int i, y] ∧ H l = some (.lst xs) ∧ xs.length < sizeLine ∧ 0 ≤ i ∧ i < 2 ^ 63 ∧
    Q .non (upd H l (.lst (xs.take i.toNat ++ [y] ++ xs.drop i.toNat)))
example : MtR X "list.insert" rIns := mt_insert
abbrev rNotKd (K : PySem.W.Frag) (d : Addr) : R2 := fun x y H Q => ∃ (z : Str) (r : Option Value), x = .str z ∧ y = .ref d ∧ PySem.W.nsIn K d z = some r ∧ Q (.bl (!r.isSome)) H
end
end Sw
namespace Sw
open PySem PySem.Spec PyProof.Rows L2
open SX (S S_cat S_len S_inj)
abbrev Pw : Program := PySem.Challenge.pw_standwaves_k89_whole_games_runs_and_logs
theorem htop : (Pw.main.scope.names.lookup ("super" : Str)).isSome = false := by decide +kernel
/-- WORDS -/
def wordTab : List (List Nat × Int) := [([98, 101, 97, 116, 115], 2), ([115, 101, 97, 116], 3), ([116, 117, 114, 110], 2), ([116, 97, 98, 108, 101], 2), ([104, 111, 108, 100], 2), ([102, 114, 101, 101], 2)]
theorem bt_isinstance : bootBuiltins "isinstance" = some (.builtin "isinstance") := by boot_by_name
theorem bt_int : bootBuiltins "int" = some (.type "int") := by boot_by_name
theorem bt_bool : bootBuiltins "bool" = some (.type "bool") := by boot_by_name
theorem bt_str : bootBuiltins "str" = some (.type "str") := by boot_by_name
theorem bt_list : bootBuiltins "list" = some (.type "list") := by boot_by_name
theorem bt_tuple : bootBuiltins "tuple" = some (.type "tuple") := by boot_by_name
theorem bt_all : bootBuiltins "all" = some (.builtin "all") := by boot_by_name
theorem bt_len : bootBuiltins "len" = some (.builtin "len") := by boot_by_name
theorem bt_sorted : bootBuiltins "sorted" = some (.builtin "sorted") := by boot_by_name
theorem bt_abs : bootBuiltins "abs" = some (.builtin "abs") := by boot_by_name
theorem bt_min : bootBuiltins "min" = some (.builtin "min") := by boot_by_name
theorem bt_repr : bootBuiltins "repr" = some (.builtin "repr") := by boot_by_name
structure Nm where
  is_integer : Addr
  is_count : Addr
  is_number : Addr
  is_row : Addr
  is_stand : Addr
  is_table : Addr
  sign_after : Addr
  row_after_beat : Addr
  Rule_init : Addr
  Rule_table : Addr
  Rule_rests : Addr
  Rule_signs : Addr
  Rule_ring_after : Addr
  Rule_eq : Addr
  turned_by : Addr
  are_stubborn : Addr
  held_beat : Addr
  need_seats : Addr
  held_after : Addr
  Moment_init : Addr
  Moment_can_do : Addr
  Moment_do : Addr
  Game_init : Addr
  Game_text : Addr
  Game_rule : Addr
  Game_beats : Addr
  Game_len : Addr
  Game_held : Addr
  Game_is_seat : Addr
  Game_is_deed : Addr
  Game_do : Addr
  Game_log : Addr
  Game_moment_behind : Addr
  Game_undo : Addr
  Game_redo : Addr
  Game_past : Addr
  Game_copied : Addr
  Game_eq : Addr
  after : Addr
  l_bag : Addr
  l_take : Addr
  l_alike : Addr
  l_mixed : Addr
  l_pick : Addr
  l_table : Addr
  l_rule : Addr
  l_text : Addr
  l_beat : Addr
  l_turned : Addr
  l_signs : Addr
  l_made_rule : Addr
  l_seats : Addr
  l_held_beat : Addr
  l_moment : Addr
  l_deed : Addr
  l_can_do : Addr
  l_did : Addr
  l_stands_so : Addr
  l_turned_back : Addr
  l_led : Addr
  l_begun : Addr
  l_beats_right : Addr
  l_turns_right : Addr
  l_apart_right : Addr
  law : Addr
  WaveError : Addr
  Wrong : Addr
  NoSeats : Addr
  NoDeed : Addr
  Full : Addr
  Refused : Addr
  Nothing : Addr
  NoEntry : Addr
  Rule : Addr
  Moment : Addr
  Game : Addr
  q_Game_beats : Addr
  q_Game_rule : Addr
  q_Game_text : Addr
  q_Rule_rests : Addr
  q_Rule_signs : Addr
  q_Rule_table : Addr
  Refused_init : Addr
  Nothing_init : Addr
  WORDS : Addr
  we : Array DictEntry
  wn : Nat
abbrev s_is_integer : Stmt := (top 11)
abbrev s_is_count : Stmt := (top 12)
abbrev s_is_number : Stmt := (top 13)
abbrev s_is_row : Stmt := (top 14)
abbrev s_is_stand : Stmt := (top 15)
abbrev s_is_table : Stmt := (top 16)
abbrev s_sign_after : Stmt := (top 20)
abbrev s_row_after_beat : Stmt := (top 21)
abbrev s_Rule_init : Stmt := (sub 22 1)
abbrev s_Rule_table : Stmt := (sub 22 2)
abbrev s_Rule_rests : Stmt := (sub 22 3)
abbrev s_Rule_signs : Stmt := (sub 22 4)
abbrev s_Rule_ring_after : Stmt := (sub 22 6)
abbrev s_Rule_eq : Stmt := (sub 22 13)
abbrev s_turned_by : Stmt := (top 24)
abbrev s_are_stubborn : Stmt := (top 26)
abbrev s_held_beat : Stmt := (top 27)
abbrev s_need_seats : Stmt := (top 28)
abbrev s_held_after : Stmt := (top 29)
abbrev s_Moment_init : Stmt := (sub 34 1)
abbrev s_Moment_can_do : Stmt := (sub 34 2)
abbrev s_Moment_do : Stmt := (sub 34 3)
abbrev s_Game_init : Stmt := (sub 35 1)
abbrev s_Game_text : Stmt := (sub 35 2)
abbrev s_Game_rule : Stmt := (sub 35 3)
abbrev s_Game_beats : Stmt := (sub 35 4)
abbrev s_Game_len : Stmt := (sub 35 6)
abbrev s_Game_held : Stmt := (sub 35 7)
abbrev s_Game_is_seat : Stmt := (sub 35 8)
abbrev s_Game_is_deed : Stmt := (sub 35 9)
abbrev s_Game_do : Stmt := (sub 35 10)
abbrev s_Game_log : Stmt := (sub 35 11)
abbrev s_Game_moment_behind : Stmt := (sub 35 12)
abbrev s_Game_undo : Stmt := (sub 35 13)
abbrev s_Game_redo : Stmt := (sub 35 14)
abbrev s_Game_past : Stmt := (sub 35 15)
abbrev s_Game_copied : Stmt := (sub 35 16)
abbrev s_Game_eq : Stmt := (sub 35 18)
abbrev s_after : Stmt := (top 37)
abbrev s_l_bag : Stmt := (top 39)
abbrev s_l_take : Stmt := (top 40)
abbrev s_l_alike : Stmt := (top 41)
abbrev s_l_mixed : Stmt := (top 42)
abbrev s_l_pick : Stmt := (top 43)
abbrev s_l_table : Stmt := (top 44)
abbrev s_l_rule : Stmt := (top 45)
abbrev s_l_text : Stmt := (top 46)
abbrev s_l_beat : Stmt := (top 47)
abbrev s_l_turned : Stmt := (top 48)
abbrev s_l_signs : Stmt := (top 49)
abbrev s_l_made_rule : Stmt := (top 50)
abbrev s_l_seats : Stmt := (top 51)
abbrev s_l_held_beat : Stmt := (top 52)
abbrev s_l_moment : Stmt := (top 53)
abbrev s_l_deed : Stmt := (top 54)
abbrev s_l_can_do : Stmt := (top 55)
abbrev s_l_did : Stmt := (top 56)
abbrev s_l_stands_so : Stmt := (top 57)
abbrev s_l_turned_back : Stmt := (top 58)
abbrev s_l_led : Stmt := (top 59)
abbrev s_l_begun : Stmt := (top 60)
abbrev s_l_beats_right : Stmt := (top 61)
abbrev s_l_turns_right : Stmt := (top 62)
abbrev s_l_apart_right : Stmt := (top 63)
abbrev s_law : Stmt := (top 64)
structure Txt (K : PySem.W.Frag) (w : World) (mg : Str → Option Value) (N : Nm) : Prop where
  d_is_integer : ∃ fd, FunD K "is_integer" "is_integer" (defArgs s_is_integer) (defBody s_is_integer) (defScope s_is_integer) [] [] N.is_integer fd ∧ L2.Binds K fd ["thing"] []
  g_is_integer : mg "is_integer" = some (.ref N.is_integer)
  k_is_integer : PySem.W.keepIn K (.ref N.is_integer) = true
  d_is_count : ∃ fd, FunD K "is_count" "is_count" (defArgs s_is_count) (defBody s_is_count) (defScope s_is_count) [] [] N.is_count fd ∧ L2.Binds K fd ["thing"] []
  g_is_count : mg "is_count" = some (.ref N.is_count)
  k_is_count : PySem.W.keepIn K (.ref N.is_count) = true
  d_is_number : ∃ fd, FunD K "is_number" "is_number" (defArgs s_is_number) (defBody s_is_number) (defScope s_is_number) [] [] N.is_number fd ∧ L2.Binds K fd ["thing"] []
  g_is_number : mg "is_number" = some (.ref N.is_number)
  k_is_number : PySem.W.keepIn K (.ref N.is_number) = true
  d_is_row : ∃ fd, FunD K "is_row" "is_row" (defArgs s_is_row) (defBody s_is_row) (defScope s_is_row) [] [] N.is_row fd ∧ L2.Binds K fd ["thing", "signs"] []
  g_is_row : mg "is_row" = some (.ref N.is_row)
  k_is_row : PySem.W.keepIn K (.ref N.is_row) = true
  d_is_stand : ∃ fd, FunD K "is_stand" "is_stand" (defArgs s_is_stand) (defBody s_is_stand) (defScope s_is_stand) [] [] N.is_stand fd ∧ L2.Binds K fd ["thing", "signs"] []
  g_is_stand : mg "is_stand" = some (.ref N.is_stand)
  k_is_stand : PySem.W.keepIn K (.ref N.is_stand) = true
  d_is_table : ∃ fd, FunD K "is_table" "is_table" (defArgs s_is_table) (defBody s_is_table) (defScope s_is_table) [] [] N.is_table fd ∧ L2.Binds K fd ["thing"] []
  g_is_table : mg "is_table" = some (.ref N.is_table)
  k_is_table : PySem.W.keepIn K (.ref N.is_table) = true
  d_sign_after : ∃ fd, FunD K "sign_after" "sign_after" (defArgs s_sign_after) (defBody s_sign_after) (defScope s_sign_after) [] [] N.sign_after fd ∧ L2.Binds K fd ["table", "last", "left", "seat", "right"] []
  g_sign_after : mg "sign_after" = some (.ref N.sign_after)
  k_sign_after : PySem.W.keepIn K (.ref N.sign_after) = true
  d_row_after_beat : ∃ fd, FunD K "row_after_beat" "row_after_beat" (defArgs s_row_after_beat) (defBody s_row_after_beat) (defScope s_row_after_beat) [] [] N.row_after_beat fd ∧ L2.Binds K fd ["table", "last", "row"] []
  g_row_after_beat : mg "row_after_beat" = some (.ref N.row_after_beat)
  k_row_after_beat : PySem.W.keepIn K (.ref N.row_after_beat) = true
  d_Rule_init : ∃ fd, FunD K "__init__" "Rule.__init__" (defArgs s_Rule_init) (defBody s_Rule_init) (defScope s_Rule_init) [.int 1] [] N.Rule_init fd ∧ L2.Binds K fd ["self", "table", "rests"] []
  d_Rule_table : ∃ fd, FunD K "table" "Rule.table" (defArgs s_Rule_table) (defBody s_Rule_table) (defScope s_Rule_table) [] [] N.Rule_table fd ∧ L2.Binds K fd ["self"] []
  d_Rule_rests : ∃ fd, FunD K "rests" "Rule.rests" (defArgs s_Rule_rests) (defBody s_Rule_rests) (defScope s_Rule_rests) [] [] N.Rule_rests fd ∧ L2.Binds K fd ["self"] []
  d_Rule_signs : ∃ fd, FunD K "signs" "Rule.signs" (defArgs s_Rule_signs) (defBody s_Rule_signs) (defScope s_Rule_signs) [] [] N.Rule_signs fd ∧ L2.Binds K fd ["self"] []
  d_Rule_ring_after : ∃ fd, FunD K "ring_after" "Rule.ring_after" (defArgs s_Rule_ring_after) (defBody s_Rule_ring_after) (defScope s_Rule_ring_after) [] [] N.Rule_ring_after fd ∧ L2.Binds K fd ["self", "text"] []
  d_Rule_eq : ∃ fd, FunD K "__eq__" "Rule.__eq__" (defArgs s_Rule_eq) (defBody s_Rule_eq) (defScope s_Rule_eq) [] [] N.Rule_eq fd ∧ L2.Binds K fd ["self", "other"] []
  d_turned_by : ∃ fd, FunD K "turned_by" "turned_by" (defArgs s_turned_by) (defBody s_turned_by) (defScope s_turned_by) [] [] N.turned_by fd ∧ L2.Binds K fd ["text", "places"] []
  g_turned_by : mg "turned_by" = some (.ref N.turned_by)
  k_turned_by : PySem.W.keepIn K (.ref N.turned_by) = true
  d_are_stubborn : ∃ fd, FunD K "are_stubborn" "are_stubborn" (defArgs s_are_stubborn) (defBody s_are_stubborn) (defScope s_are_stubborn) [] [] N.are_stubborn fd ∧ L2.Binds K fd ["text", "thing"] []
  g_are_stubborn : mg "are_stubborn" = some (.ref N.are_stubborn)
  k_are_stubborn : PySem.W.keepIn K (.ref N.are_stubborn) = true
  d_held_beat : ∃ fd, FunD K "held_beat" "held_beat" (defArgs s_held_beat) (defBody s_held_beat) (defScope s_held_beat) [] [] N.held_beat fd ∧ L2.Binds K fd ["rule", "text", "seats"] []
  g_held_beat : mg "held_beat" = some (.ref N.held_beat)
  k_held_beat : PySem.W.keepIn K (.ref N.held_beat) = true
  d_need_seats : ∃ fd, FunD K "need_seats" "need_seats" (defArgs s_need_seats) (defBody s_need_seats) (defScope s_need_seats) [] [] N.need_seats fd ∧ L2.Binds K fd ["text", "seats"] []
  g_need_seats : mg "need_seats" = some (.ref N.need_seats)
  k_need_seats : PySem.W.keepIn K (.ref N.need_seats) = true
  d_held_after : ∃ fd, FunD K "held_after" "held_after" (defArgs s_held_after) (defBody s_held_after) (defScope s_held_after) [] [] N.held_after fd ∧ L2.Binds K fd ["rule", "text", "seats", "many"] []
  g_held_after : mg "held_after" = some (.ref N.held_after)
  k_held_after : PySem.W.keepIn K (.ref N.held_after) = true
  d_Moment_init : ∃ fd, FunD K "__init__" "Moment.__init__" (defArgs s_Moment_init) (defBody s_Moment_init) (defScope s_Moment_init) [] [] N.Moment_init fd ∧ L2.Binds K fd ["self", "rule", "text"] []
  d_Moment_can_do : ∃ fd, FunD K "can_do" "Moment.can_do" (defArgs s_Moment_can_do) (defBody s_Moment_can_do) (defScope s_Moment_can_do) [] [] N.Moment_can_do fd ∧ L2.Binds K fd ["self", "deed"] []
  d_Moment_do : ∃ fd, FunD K "do" "Moment.do" (defArgs s_Moment_do) (defBody s_Moment_do) (defScope s_Moment_do) [] [] N.Moment_do fd ∧ L2.Binds K fd ["self", "deed"] []
  d_Game_init : ∃ fd, FunD K "__init__" "Game.__init__" (defArgs s_Game_init) (defBody s_Game_init) (defScope s_Game_init) [] [] N.Game_init fd ∧ L2.Binds K fd ["self", "rule", "text"] []
  d_Game_text : ∃ fd, FunD K "text" "Game.text" (defArgs s_Game_text) (defBody s_Game_text) (defScope s_Game_text) [] [] N.Game_text fd ∧ L2.Binds K fd ["self"] []
  d_Game_rule : ∃ fd, FunD K "rule" "Game.rule" (defArgs s_Game_rule) (defBody s_Game_rule) (defScope s_Game_rule) [] [] N.Game_rule fd ∧ L2.Binds K fd ["self"] []
  d_Game_beats : ∃ fd, FunD K "beats" "Game.beats" (defArgs s_Game_beats) (defBody s_Game_beats) (defScope s_Game_beats) [] [] N.Game_beats fd ∧ L2.Binds K fd ["self"] []
  d_Game_len : ∃ fd, FunD K "__len__" "Game.__len__" (defArgs s_Game_len) (defBody s_Game_len) (defScope s_Game_len) [] [] N.Game_len fd ∧ L2.Binds K fd ["self"] []
  d_Game_held : ∃ fd, FunD K "held" "Game.held" (defArgs s_Game_held) (defBody s_Game_held) (defScope s_Game_held) [] [] N.Game_held fd ∧ L2.Binds K fd ["self"] []
  d_Game_is_seat : ∃ fd, FunD K "is_seat" "Game.is_seat" (defArgs s_Game_is_seat) (defBody s_Game_is_seat) (defScope s_Game_is_seat) [] [] N.Game_is_seat fd ∧ L2.Binds K fd ["self", "thing"] []
  d_Game_is_deed : ∃ fd, FunD K "is_deed" "Game.is_deed" (defArgs s_Game_is_deed) (defBody s_Game_is_deed) (defScope s_Game_is_deed) [] [] N.Game_is_deed fd ∧ L2.Binds K fd ["self", "thing"] []
  d_Game_do : ∃ fd, FunD K "do" "Game.do" (defArgs s_Game_do) (defBody s_Game_do) (defScope s_Game_do) [] [] N.Game_do fd ∧ L2.Binds K fd ["self", "deed"] []
  d_Game_log : ∃ fd, FunD K "log" "Game.log" (defArgs s_Game_log) (defBody s_Game_log) (defScope s_Game_log) [] [] N.Game_log fd ∧ L2.Binds K fd ["self"] []
  d_Game_moment_behind : ∃ fd, FunD K "moment_behind" "Game.moment_behind" (defArgs s_Game_moment_behind) (defBody s_Game_moment_behind) (defScope s_Game_moment_behind) [] [] N.Game_moment_behind fd ∧ L2.Binds K fd ["self", "log"] []
  d_Game_undo : ∃ fd, FunD K "undo" "Game.undo" (defArgs s_Game_undo) (defBody s_Game_undo) (defScope s_Game_undo) [] [] N.Game_undo fd ∧ L2.Binds K fd ["self"] []
  d_Game_redo : ∃ fd, FunD K "redo" "Game.redo" (defArgs s_Game_redo) (defBody s_Game_redo) (defScope s_Game_redo) [] [] N.Game_redo fd ∧ L2.Binds K fd ["self"] []
  d_Game_past : ∃ fd, FunD K "past" "Game.past" (defArgs s_Game_past) (defBody s_Game_past) (defScope s_Game_past) [] [] N.Game_past fd ∧ L2.Binds K fd ["self", "many"] []
  d_Game_copied : ∃ fd, FunD K "copied" "Game.copied" (defArgs s_Game_copied) (defBody s_Game_copied) (defScope s_Game_copied) [] [] N.Game_copied fd ∧ L2.Binds K fd ["self"] []
  d_Game_eq : ∃ fd, FunD K "__eq__" "Game.__eq__" (defArgs s_Game_eq) (defBody s_Game_eq) (defScope s_Game_eq) [] [] N.Game_eq fd ∧ L2.Binds K fd ["self", "other"] []
  d_after : ∃ fd, FunD K "after" "after" (defArgs s_after) (defBody s_after) (defScope s_after) [] [] N.after fd ∧ L2.Binds K fd ["rule", "text", "many"] []
  g_after : mg "after" = some (.ref N.after)
  k_after : PySem.W.keepIn K (.ref N.after) = true
  d_l_bag : ∃ fd, FunD K "_law_bag" "_law_bag" (defArgs s_l_bag) (defBody s_l_bag) (defScope s_l_bag) [] [] N.l_bag fd ∧ L2.Binds K fd ["_law_script"] []
  g_l_bag : mg "_law_bag" = some (.ref N.l_bag)
  k_l_bag : PySem.W.keepIn K (.ref N.l_bag) = true
  d_l_take : ∃ fd, FunD K "_law_take" "_law_take" (defArgs s_l_take) (defBody s_l_take) (defScope s_l_take) [] [] N.l_take fd ∧ L2.Binds K fd ["_law_bag_here", "_law_many"] []
  g_l_take : mg "_law_take" = some (.ref N.l_take)
  k_l_take : PySem.W.keepIn K (.ref N.l_take) = true
  d_l_alike : ∃ fd, FunD K "_law_alike" "_law_alike" (defArgs s_l_alike) (defBody s_l_alike) (defScope s_l_alike) [] [] N.l_alike fd ∧ L2.Binds K fd ["_law_found", "_law_due"] []
  g_l_alike : mg "_law_alike" = some (.ref N.l_alike)
  k_l_alike : PySem.W.keepIn K (.ref N.l_alike) = true
  d_l_mixed : ∃ fd, FunD K "_law_mixed" "_law_mixed" (defArgs s_l_mixed) (defBody s_l_mixed) (defScope s_l_mixed) [] [] N.l_mixed fd ∧ L2.Binds K fd ["_law_bag_here", "_law_things"] []
  g_l_mixed : mg "_law_mixed" = some (.ref N.l_mixed)
  k_l_mixed : PySem.W.keepIn K (.ref N.l_mixed) = true
  d_l_pick : ∃ fd, FunD K "_law_pick" "_law_pick" (defArgs s_l_pick) (defBody s_l_pick) (defScope s_l_pick) [] [] N.l_pick fd ∧ L2.Binds K fd ["_law_bag_here", "_law_things"] []
  g_l_pick : mg "_law_pick" = some (.ref N.l_pick)
  k_l_pick : PySem.W.keepIn K (.ref N.l_pick) = true
  d_l_table : ∃ fd, FunD K "_law_table" "_law_table" (defArgs s_l_table) (defBody s_l_table) (defScope s_l_table) [] [] N.l_table fd ∧ L2.Binds K fd ["_law_bag_here"] []
  g_l_table : mg "_law_table" = some (.ref N.l_table)
  k_l_table : PySem.W.keepIn K (.ref N.l_table) = true
  d_l_rule : ∃ fd, FunD K "_law_rule" "_law_rule" (defArgs s_l_rule) (defBody s_l_rule) (defScope s_l_rule) [] [] N.l_rule fd ∧ L2.Binds K fd ["_law_bag_here"] []
  g_l_rule : mg "_law_rule" = some (.ref N.l_rule)
  k_l_rule : PySem.W.keepIn K (.ref N.l_rule) = true
  d_l_text : ∃ fd, FunD K "_law_text" "_law_text" (defArgs s_l_text) (defBody s_l_text) (defScope s_l_text) [] [] N.l_text fd ∧ L2.Binds K fd ["_law_bag_here", "_law_rests", "_law_most"] []
  g_l_text : mg "_law_text" = some (.ref N.l_text)
  k_l_text : PySem.W.keepIn K (.ref N.l_text) = true
  d_l_beat : ∃ fd, FunD K "_law_beat" "_law_beat" (defArgs s_l_beat) (defBody s_l_beat) (defScope s_l_beat) [] [] N.l_beat fd ∧ L2.Binds K fd ["_law_made", "_law_text_here"] []
  g_l_beat : mg "_law_beat" = some (.ref N.l_beat)
  k_l_beat : PySem.W.keepIn K (.ref N.l_beat) = true
  d_l_turned : ∃ fd, FunD K "_law_turned" "_law_turned" (defArgs s_l_turned) (defBody s_l_turned) (defScope s_l_turned) [] [] N.l_turned fd ∧ L2.Binds K fd ["_law_text_here", "_law_places"] []
  g_l_turned : mg "_law_turned" = some (.ref N.l_turned)
  k_l_turned : PySem.W.keepIn K (.ref N.l_turned) = true
  d_l_signs : ∃ fd, FunD K "_law_signs" "_law_signs" (defArgs s_l_signs) (defBody s_l_signs) (defScope s_l_signs) [] [] N.l_signs fd ∧ L2.Binds K fd ["_law_rests"] []
  g_l_signs : mg "_law_signs" = some (.ref N.l_signs)
  k_l_signs : PySem.W.keepIn K (.ref N.l_signs) = true
  d_l_made_rule : ∃ fd, FunD K "_law_made_rule" "_law_made_rule" (defArgs s_l_made_rule) (defBody s_l_made_rule) (defScope s_l_made_rule) [] [] N.l_made_rule fd ∧ L2.Binds K fd ["_law_made"] []
  g_l_made_rule : mg "_law_made_rule" = some (.ref N.l_made_rule)
  k_l_made_rule : PySem.W.keepIn K (.ref N.l_made_rule) = true
  d_l_seats : ∃ fd, FunD K "_law_seats" "_law_seats" (defArgs s_l_seats) (defBody s_l_seats) (defScope s_l_seats) [] [] N.l_seats fd ∧ L2.Binds K fd ["_law_bag_here", "_law_text_here"] []
  g_l_seats : mg "_law_seats" = some (.ref N.l_seats)
  k_l_seats : PySem.W.keepIn K (.ref N.l_seats) = true
  d_l_held_beat : ∃ fd, FunD K "_law_held_beat" "_law_held_beat" (defArgs s_l_held_beat) (defBody s_l_held_beat) (defScope s_l_held_beat) [] [] N.l_held_beat fd ∧ L2.Binds K fd ["_law_made", "_law_text_here", "_law_seats_here"] []
  g_l_held_beat : mg "_law_held_beat" = some (.ref N.l_held_beat)
  k_l_held_beat : PySem.W.keepIn K (.ref N.l_held_beat) = true
  d_l_moment : ∃ fd, FunD K "_law_moment" "_law_moment" (defArgs s_l_moment) (defBody s_l_moment) (defScope s_l_moment) [] [] N.l_moment fd ∧ L2.Binds K fd ["_law_made", "_law_text_here", "_law_log"] []
  g_l_moment : mg "_law_moment" = some (.ref N.l_moment)
  k_l_moment : PySem.W.keepIn K (.ref N.l_moment) = true
  d_l_deed : ∃ fd, FunD K "_law_deed" "_law_deed" (defArgs s_l_deed) (defBody s_l_deed) (defScope s_l_deed) [] [] N.l_deed fd ∧ L2.Binds K fd ["_law_bag_here", "_law_moment_here"] []
  g_l_deed : mg "_law_deed" = some (.ref N.l_deed)
  k_l_deed : PySem.W.keepIn K (.ref N.l_deed) = true
  d_l_can_do : ∃ fd, FunD K "_law_can_do" "_law_can_do" (defArgs s_l_can_do) (defBody s_l_can_do) (defScope s_l_can_do) [] [] N.l_can_do fd ∧ L2.Binds K fd ["_law_moment_here", "_law_deed_here"] []
  g_l_can_do : mg "_law_can_do" = some (.ref N.l_can_do)
  k_l_can_do : PySem.W.keepIn K (.ref N.l_can_do) = true
  d_l_did : ∃ fd, FunD K "_law_did" "_law_did" (defArgs s_l_did) (defBody s_l_did) (defScope s_l_did) [] [] N.l_did fd ∧ L2.Binds K fd ["_law_game", "_law_deed_here"] []
  g_l_did : mg "_law_did" = some (.ref N.l_did)
  k_l_did : PySem.W.keepIn K (.ref N.l_did) = true
  d_l_stands_so : ∃ fd, FunD K "_law_stands_so" "_law_stands_so" (defArgs s_l_stands_so) (defBody s_l_stands_so) (defScope s_l_stands_so) [] [] N.l_stands_so fd ∧ L2.Binds K fd ["_law_game", "_law_made", "_law_text_here", "_law_log"] []
  g_l_stands_so : mg "_law_stands_so" = some (.ref N.l_stands_so)
  k_l_stands_so : PySem.W.keepIn K (.ref N.l_stands_so) = true
  d_l_turned_back : ∃ fd, FunD K "_law_turned_back" "_law_turned_back" (defArgs s_l_turned_back) (defBody s_l_turned_back) (defScope s_l_turned_back) [] [] N.l_turned_back fd ∧ L2.Binds K fd ["_law_game", "_law_lists", "_law_way"] []
  g_l_turned_back : mg "_law_turned_back" = some (.ref N.l_turned_back)
  k_l_turned_back : PySem.W.keepIn K (.ref N.l_turned_back) = true
  d_l_led : ∃ fd, FunD K "_law_led" "_law_led" (defArgs s_l_led) (defBody s_l_led) (defScope s_l_led) [] [] N.l_led fd ∧ L2.Binds K fd ["_law_bag_here", "_law_game", "_law_made", "_law_text_here", "_law_log", "_law_gone", "_law_many"] []
  g_l_led : mg "_law_led" = some (.ref N.l_led)
  k_l_led : PySem.W.keepIn K (.ref N.l_led) = true
  d_l_begun : ∃ fd, FunD K "_law_begun" "_law_begun" (defArgs s_l_begun) (defBody s_l_begun) (defScope s_l_begun) [] [] N.l_begun fd ∧ L2.Binds K fd ["_law_bag_here"] []
  g_l_begun : mg "_law_begun" = some (.ref N.l_begun)
  k_l_begun : PySem.W.keepIn K (.ref N.l_begun) = true
  d_l_beats_right : ∃ fd, FunD K "_law_beats_right" "_law_beats_right" (defArgs s_l_beats_right) (defBody s_l_beats_right) (defScope s_l_beats_right) [] [] N.l_beats_right fd ∧ L2.Binds K fd ["_law_bag_here", "_law_rule_here", "_law_text_here", "_law_seats_here"] []
  g_l_beats_right : mg "_law_beats_right" = some (.ref N.l_beats_right)
  k_l_beats_right : PySem.W.keepIn K (.ref N.l_beats_right) = true
  d_l_turns_right : ∃ fd, FunD K "_law_turns_right" "_law_turns_right" (defArgs s_l_turns_right) (defBody s_l_turns_right) (defScope s_l_turns_right) [] [] N.l_turns_right fd ∧ L2.Binds K fd ["_law_bag_here", "_law_rule_here", "_law_text_here", "_law_seats_here"] []
  g_l_turns_right : mg "_law_turns_right" = some (.ref N.l_turns_right)
  k_l_turns_right : PySem.W.keepIn K (.ref N.l_turns_right) = true
  d_l_apart_right : ∃ fd, FunD K "_law_apart_right" "_law_apart_right" (defArgs s_l_apart_right) (defBody s_l_apart_right) (defScope s_l_apart_right) [] [] N.l_apart_right fd ∧ L2.Binds K fd ["_law_bag_here", "_law_made", "_law_text_here"] []
  g_l_apart_right : mg "_law_apart_right" = some (.ref N.l_apart_right)
  k_l_apart_right : PySem.W.keepIn K (.ref N.l_apart_right) = true
  d_law : ∃ fd, FunD K "law" "law" (defArgs s_law) (defBody s_law) (defScope s_law) [] [] N.law fd ∧ L2.Binds K fd ["_law_script"] []
  g_law : mg "law" = some (.ref N.law)
  k_law : PySem.W.keepIn K (.ref N.law) = true
  g_WaveError : mg "WaveError" = some (.ref N.WaveError)
  g_Wrong : mg "Wrong" = some (.ref N.Wrong)
  g_NoSeats : mg "NoSeats" = some (.ref N.NoSeats)
  g_NoDeed : mg "NoDeed" = some (.ref N.NoDeed)
  g_Full : mg "Full" = some (.ref N.Full)
  g_Refused : mg "Refused" = some (.ref N.Refused)
  g_Nothing : mg "Nothing" = some (.ref N.Nothing)
  g_NoEntry : mg "NoEntry" = some (.ref N.NoEntry)
  g_Rule : mg "Rule" = some (.ref N.Rule)
  g_Moment : mg "Moment" = some (.ref N.Moment)
  g_Game : mg "Game" = some (.ref N.Game)
  n_isinstance : mg "isinstance" = none
  n_int : mg "int" = none
  n_bool : mg "bool" = none
  n_str : mg "str" = none
  n_list : mg "list" = none
  n_tuple : mg "tuple" = none
  n_all : mg "all" = none
  n_len : mg "len" = none
  n_set : mg "set" = none
  n_enumerate : mg "enumerate" = none
  n_range : mg "range" = none
  n_sorted : mg "sorted" = none
  n_abs : mg "abs" = none
  n_min : mg "min" = none
  n_repr : mg "repr" = none
  n_super : mg "super" = none
  g_SIGNS : ∃ u, mg "SIGNS" = some u ∧ RelV (.str (S [48, 49, 50, 51])) u
  g_MOST_RESTS : ∃ u, mg "MOST_RESTS" = some u ∧ RelV (.int 2) u
  g_MOST : ∃ u, mg "MOST" = some u ∧ RelV (.int 200) u
  g_MOST_BEATS : ∃ u, mg "MOST_BEATS" = some u ∧ RelV (.int 50) u
  g_WORDS : ∃ u, mg "WORDS" = some u ∧ RelV (.ref N.WORDS) u
  mk_Rule : Mk K N.Rule N.Rule_init
  c_Rule : SlX.SCls K N.Rule
  s_Rule_its_rests : ∃ p, SlX.Slot1 K N.Rule "its_rests" p 0
  s_Rule_its_table : ∃ p, SlX.Slot1 K N.Rule "its_table" p 1
  mk_Moment : Mk K N.Moment N.Moment_init
  c_Moment : SlX.SCls K N.Moment
  s_Moment_now_beats : ∃ p, SlX.Slot1 K N.Moment "now_beats" p 0
  s_Moment_now_held : ∃ p, SlX.Slot1 K N.Moment "now_held" p 1
  s_Moment_now_rule : ∃ p, SlX.Slot1 K N.Moment "now_rule" p 2
  s_Moment_now_text : ∃ p, SlX.Slot1 K N.Moment "now_text" p 3
  mk_Game : Mk K N.Game N.Game_init
  c_Game : SlX.SCls K N.Game
  s_Game_first_rule : ∃ p, SlX.Slot1 K N.Game "first_rule" p 0
  s_Game_first_text : ∃ p, SlX.Slot1 K N.Game "first_text" p 1
  s_Game_its_log : ∃ p, SlX.Slot1 K N.Game "its_log" p 2
  s_Game_its_moment : ∃ p, SlX.Slot1 K N.Game "its_moment" p 3
  s_Game_its_undone : ∃ p, SlX.Slot1 K N.Game "its_undone" p 4
  p_Game_beats : PropOf K N.Game "beats" N.q_Game_beats N.Game_beats
  p_Game_rule : PropOf K N.Game "rule" N.q_Game_rule N.Game_rule
  p_Game_text : PropOf K N.Game "text" N.q_Game_text N.Game_text
  p_Rule_rests : PropOf K N.Rule "rests" N.q_Rule_rests N.Rule_rests
  p_Rule_signs : PropOf K N.Rule "signs" N.q_Rule_signs N.Rule_signs
  p_Rule_table : PropOf K N.Rule "table" N.q_Rule_table N.Rule_table
  m_Rule_ring_after : Meth K N.Rule "ring_after" N.Rule_ring_after
  m_Moment_can_do : Meth K N.Moment "can_do" N.Moment_can_do
  m_Moment_do : Meth K N.Moment "do" N.Moment_do
  m_Game_held : Meth K N.Game "held" N.Game_held
  m_Game_is_seat : Meth K N.Game "is_seat" N.Game_is_seat
  m_Game_is_deed : Meth K N.Game "is_deed" N.Game_is_deed
  m_Game_do : Meth K N.Game "do" N.Game_do
  m_Game_log : Meth K N.Game "log" N.Game_log
  m_Game_moment_behind : Meth K N.Game "moment_behind" N.Game_moment_behind
  m_Game_undo : Meth K N.Game "undo" N.Game_undo
  m_Game_redo : Meth K N.Game "redo" N.Game_redo
  m_Game_past : Meth K N.Game "past" N.Game_past
  m_Game_copied : Meth K N.Game "copied" N.Game_copied
  si_Rule : SlX.SIsi K N.Rule
  kit_Rule : PySem.W.kitOne K (.ref N.Rule) (.ref N.Rule) = some true
  eq_Rule : PySem.W.findIn K (.ref N.Rule) "__eq__" = some (some (.ref N.Rule_eq))
  fn_Rule_eq : PySem.W.isFn K (.ref N.Rule_eq) = true
  ne_Rule : PySem.W.findIn K (.ref N.Rule) "__ne__" = some (some (.builtin "object.__ne__"))
  ob_Rule : PySem.W.mroIn K N.Rule (.type "object") = some true
  nf_Rule : PySem.W.notFirst K N.Rule (.ref N.Rule) = true
  si_Game : SlX.SIsi K N.Game
  kit_Game : PySem.W.kitOne K (.ref N.Game) (.ref N.Game) = some true
  eq_Game : PySem.W.findIn K (.ref N.Game) "__eq__" = some (some (.ref N.Game_eq))
  fn_Game_eq : PySem.W.isFn K (.ref N.Game_eq) = true
  ne_Game : PySem.W.findIn K (.ref N.Game) "__ne__" = some (some (.builtin "object.__ne__"))
  ob_Game : PySem.W.mroIn K N.Game (.type "object") = some true
  nf_Game : PySem.W.notFirst K N.Game (.ref N.Game) = true
  len_Game : PySem.W.findIn K (.ref N.Game) "__len__" = some (some (.ref N.Game_len))
  fn_Game_len : PySem.W.isFn K (.ref N.Game_len) = true
  kd : KDict K w N.WORDS N.we N.wn
  wv : ∀ q ∈ wordTab, ∃ u, PySem.W.nsIn K N.WORDS (S q.1) = some (some u) ∧ RelV (.int q.2) u
  wx_Refused : Wx Pw K N.Refused N.Refused_init "Refused.__init__" (defArgs sRefI) (defBody sRefI) (defScope sRefI)
  ec_Refused : ExcC K N.Refused
  exm_Refused : PySem.W.exmOne K (.ref N.Refused) (.ref N.WaveError) = some true
  wx_Nothing : Wx Pw K N.Nothing N.Nothing_init "Nothing.__init__" (defArgs sNoI) (defBody sNoI) (defScope sNoI)
  ec_Nothing : ExcC K N.Nothing
  exm_Nothing : PySem.W.exmOne K (.ref N.Nothing) (.ref N.WaveError) = some true
  no_deed : PySem.W.findIn K (.ref N.Refused) "deed" = some none
  xf_Refused : XfC K N.Refused
  kit_Refused_NoDeed : PySem.W.kitOne K (.ref N.Refused) (.ref N.NoDeed) = some false
  kit_Refused_Refused : PySem.W.kitOne K (.ref N.Refused) (.ref N.Refused) = some true
  kit_Refused_Full : PySem.W.kitOne K (.ref N.Refused) (.ref N.Full) = some false
  kit_Nothing_Nothing : PySem.W.kitOne K (.ref N.Nothing) (.ref N.Nothing) = some true
  kit_Nothing_NoEntry : PySem.W.kitOne K (.ref N.Nothing) (.ref N.NoEntry) = some false
  neRM : N.Rule ≠ N.Moment
  neRG : N.Rule ≠ N.Game
  neMG : N.Moment ≠ N.Game
abbrev nm_is_integer : List Str := ["thing"]
theorem sc_is_integer : FnScope nm_is_integer ["thing"] (defScope s_is_integer) := ⟨rfl, rfl, rfl, by decide +kernel, rfl, by decide +kernel, by decide +kernel⟩
abbrev nm_is_count : List Str := ["thing"]
theorem sc_is_count : FnScope nm_is_count ["thing"] (defScope s_is_count) := ⟨rfl, rfl, rfl, by decide +kernel, rfl, by decide +kernel, by decide +kernel⟩
abbrev nm_is_number : List Str := ["thing"]
theorem sc_is_number : FnScope nm_is_number ["thing"] (defScope s_is_number) := ⟨rfl, rfl, rfl, by decide +kernel, rfl, by decide +kernel, by decide +kernel⟩
abbrev nm_is_row : List Str := ["thing", "signs", "sign"]
theorem sc_is_row : FnScope nm_is_row ["thing", "signs"] (defScope s_is_row) := ⟨rfl, rfl, rfl, by decide +kernel, rfl, by decide +kernel, by decide +kernel⟩
abbrev nm_is_stand : List Str := ["thing", "signs"]
theorem sc_is_stand : FnScope nm_is_stand ["thing", "signs"] (defScope s_is_stand) := ⟨rfl, rfl, rfl, by decide +kernel, rfl, by decide +kernel, by decide +kernel⟩
abbrev nm_is_table : List Str := ["thing"]
theorem sc_is_table : FnScope nm_is_table ["thing"] (defScope s_is_table) := ⟨rfl, rfl, rfl, by decide +kernel, rfl, by decide +kernel, by decide +kernel⟩
abbrev nm_sign_after : List Str := ["table", "last", "left", "seat", "right"]
theorem sc_sign_after : FnScope nm_sign_after ["table", "last", "left", "seat", "right"] (defScope s_sign_after) := ⟨rfl, rfl, rfl, by decide +kernel, rfl, by decide +kernel, by decide +kernel⟩
abbrev nm_row_after_beat : List Str := ["table", "last", "row", "at"]
theorem sc_row_after_beat : FnScope nm_row_after_beat ["table", "last", "row"] (defScope s_row_after_beat) := ⟨rfl, rfl, rfl, by decide +kernel, rfl, by decide +kernel, by decide +kernel⟩
abbrev nm_Rule_init : List Str := ["self", "table", "rests"]
theorem sc_Rule_init : FnScope nm_Rule_init ["self", "table", "rests"] (defScope s_Rule_init) := ⟨rfl, rfl, rfl, by decide +kernel, rfl, by decide +kernel, by decide +kernel⟩
abbrev nm_Rule_table : List Str := ["self"]
theorem sc_Rule_table : FnScope nm_Rule_table ["self"] (defScope s_Rule_table) := ⟨rfl, rfl, rfl, by decide +kernel, rfl, by decide +kernel, by decide +kernel⟩
abbrev nm_Rule_rests : List Str := ["self"]
theorem sc_Rule_rests : FnScope nm_Rule_rests ["self"] (defScope s_Rule_rests) := ⟨rfl, rfl, rfl, by decide +kernel, rfl, by decide +kernel, by decide +kernel⟩
abbrev nm_Rule_signs : List Str := ["self"]
theorem sc_Rule_signs : FnScope nm_Rule_signs ["self"] (defScope s_Rule_signs) := ⟨rfl, rfl, rfl, by decide +kernel, rfl, by decide +kernel, by decide +kernel⟩
abbrev nm_Rule_ring_after : List Str := ["self", "text"]
theorem sc_Rule_ring_after : FnScope nm_Rule_ring_after ["self", "text"] (defScope s_Rule_ring_after) := ⟨rfl, rfl, rfl, by decide +kernel, rfl, by decide +kernel, by decide +kernel⟩
abbrev nm_Rule_eq : List Str := ["self", "other"]
theorem sc_Rule_eq : FnScope nm_Rule_eq ["self", "other"] (defScope s_Rule_eq) := ⟨rfl, rfl, rfl, by decide +kernel, rfl, by decide +kernel, by decide +kernel⟩
abbrev nm_turned_by : List Str := ["text", "places", "at"]
theorem sc_turned_by : FnScope nm_turned_by ["text", "places"] (defScope s_turned_by) := ⟨rfl, rfl, rfl, by decide +kernel, rfl, by decide +kernel, by decide +kernel⟩
abbrev nm_are_stubborn : List Str := ["text", "thing", "seat", "one"]
theorem sc_are_stubborn : FnScope nm_are_stubborn ["text", "thing"] (defScope s_are_stubborn) := ⟨rfl, rfl, rfl, by decide +kernel, rfl, by decide +kernel, by decide +kernel⟩
abbrev nm_held_beat : List Str := ["rule", "text", "seats", "seat", "sign"]
theorem sc_held_beat : FnScope nm_held_beat ["rule", "text", "seats"] (defScope s_held_beat) := ⟨rfl, rfl, rfl, by decide +kernel, rfl, by decide +kernel, by decide +kernel⟩
abbrev nm_need_seats : List Str := ["text", "seats"]
theorem sc_need_seats : FnScope nm_need_seats ["text", "seats"] (defScope s_need_seats) := ⟨rfl, rfl, rfl, by decide +kernel, rfl, by decide +kernel, by decide +kernel⟩
abbrev nm_held_after : List Str := ["rule", "text", "seats", "many", "turn"]
theorem sc_held_after : FnScope nm_held_after ["rule", "text", "seats", "many"] (defScope s_held_after) := ⟨rfl, rfl, rfl, by decide +kernel, rfl, by decide +kernel, by decide +kernel⟩
abbrev nm_Moment_init : List Str := ["self", "rule", "text"]
theorem sc_Moment_init : FnScope nm_Moment_init ["self", "rule", "text"] (defScope s_Moment_init) := ⟨rfl, rfl, rfl, by decide +kernel, rfl, by decide +kernel, by decide +kernel⟩
abbrev nm_Moment_can_do : List Str := ["self", "deed"]
theorem sc_Moment_can_do : FnScope nm_Moment_can_do ["self", "deed"] (defScope s_Moment_can_do) := ⟨rfl, rfl, rfl, by decide +kernel, rfl, by decide +kernel, by decide +kernel⟩
abbrev nm_Moment_do : List Str := ["self", "deed", "word", "told", "turn", "size", "seat"]
theorem sc_Moment_do : FnScope nm_Moment_do ["self", "deed"] (defScope s_Moment_do) := ⟨rfl, rfl, rfl, by decide +kernel, rfl, by decide +kernel, by decide +kernel⟩
abbrev nm_Game_init : List Str := ["self", "rule", "text"]
theorem sc_Game_init : FnScope nm_Game_init ["self", "rule", "text"] (defScope s_Game_init) := ⟨rfl, rfl, rfl, by decide +kernel, rfl, by decide +kernel, by decide +kernel⟩
abbrev nm_Game_text : List Str := ["self"]
theorem sc_Game_text : FnScope nm_Game_text ["self"] (defScope s_Game_text) := ⟨rfl, rfl, rfl, by decide +kernel, rfl, by decide +kernel, by decide +kernel⟩
abbrev nm_Game_rule : List Str := ["self"]
theorem sc_Game_rule : FnScope nm_Game_rule ["self"] (defScope s_Game_rule) := ⟨rfl, rfl, rfl, by decide +kernel, rfl, by decide +kernel, by decide +kernel⟩
abbrev nm_Game_beats : List Str := ["self"]
theorem sc_Game_beats : FnScope nm_Game_beats ["self"] (defScope s_Game_beats) := ⟨rfl, rfl, rfl, by decide +kernel, rfl, by decide +kernel, by decide +kernel⟩
abbrev nm_Game_len : List Str := ["self"]
theorem sc_Game_len : FnScope nm_Game_len ["self"] (defScope s_Game_len) := ⟨rfl, rfl, rfl, by decide +kernel, rfl, by decide +kernel, by decide +kernel⟩
abbrev nm_Game_held : List Str := ["self"]
theorem sc_Game_held : FnScope nm_Game_held ["self"] (defScope s_Game_held) := ⟨rfl, rfl, rfl, by decide +kernel, rfl, by decide +kernel, by decide +kernel⟩
abbrev nm_Game_is_seat : List Str := ["self", "thing"]
theorem sc_Game_is_seat : FnScope nm_Game_is_seat ["self", "thing"] (defScope s_Game_is_seat) := ⟨rfl, rfl, rfl, by decide +kernel, rfl, by decide +kernel, by decide +kernel⟩
abbrev nm_Game_is_deed : List Str := ["self", "thing"]
theorem sc_Game_is_deed : FnScope nm_Game_is_deed ["self", "thing"] (defScope s_Game_is_deed) := ⟨rfl, rfl, rfl, by decide +kernel, rfl, by decide +kernel, by decide +kernel⟩
abbrev nm_Game_do : List Str := ["self", "deed"]
theorem sc_Game_do : FnScope nm_Game_do ["self", "deed"] (defScope s_Game_do) := ⟨rfl, rfl, rfl, by decide +kernel, rfl, by decide +kernel, by decide +kernel⟩
abbrev nm_Game_log : List Str := ["self"]
theorem sc_Game_log : FnScope nm_Game_log ["self"] (defScope s_Game_log) := ⟨rfl, rfl, rfl, by decide +kernel, rfl, by decide +kernel, by decide +kernel⟩
abbrev nm_Game_moment_behind : List Str := ["self", "log", "found", "deed"]
theorem sc_Game_moment_behind : FnScope nm_Game_moment_behind ["self", "log"] (defScope s_Game_moment_behind) := ⟨rfl, rfl, rfl, by decide +kernel, rfl, by decide +kernel, by decide +kernel⟩
abbrev nm_Game_undo : List Str := ["self", "deed"]
theorem sc_Game_undo : FnScope nm_Game_undo ["self"] (defScope s_Game_undo) := ⟨rfl, rfl, rfl, by decide +kernel, rfl, by decide +kernel, by decide +kernel⟩
abbrev nm_Game_redo : List Str := ["self", "deed"]
theorem sc_Game_redo : FnScope nm_Game_redo ["self"] (defScope s_Game_redo) := ⟨rfl, rfl, rfl, by decide +kernel, rfl, by decide +kernel, by decide +kernel⟩
abbrev nm_Game_past : List Str := ["self", "many", "found"]
theorem sc_Game_past : FnScope nm_Game_past ["self", "many"] (defScope s_Game_past) := ⟨rfl, rfl, rfl, by decide +kernel, rfl, by decide +kernel, by decide +kernel⟩
abbrev nm_Game_copied : List Str := ["self", "found"]
theorem sc_Game_copied : FnScope nm_Game_copied ["self"] (defScope s_Game_copied) := ⟨rfl, rfl, rfl, by decide +kernel, rfl, by decide +kernel, by decide +kernel⟩
abbrev nm_Game_eq : List Str := ["self", "other"]
theorem sc_Game_eq : FnScope nm_Game_eq ["self", "other"] (defScope s_Game_eq) := ⟨rfl, rfl, rfl, by decide +kernel, rfl, by decide +kernel, by decide +kernel⟩
abbrev nm_after : List Str := ["rule", "text", "many", "turn"]
theorem sc_after : FnScope nm_after ["rule", "text", "many"] (defScope s_after) := ⟨rfl, rfl, rfl, by decide +kernel, rfl, by decide +kernel, by decide +kernel⟩
abbrev nm_l_bag : List Str := ["_law_script", "_law_cell"]
theorem sc_l_bag : FnScope nm_l_bag ["_law_script"] (defScope s_l_bag) := ⟨rfl, rfl, rfl, by decide +kernel, rfl, by decide +kernel, by decide +kernel⟩
abbrev nm_l_take : List Str := ["_law_bag_here", "_law_many", "_law_begin", "_law_second", "_law_cell", "_law_mixed_here", "_law_value"]
theorem sc_l_take : FnScope nm_l_take ["_law_bag_here", "_law_many"] (defScope s_l_take) := ⟨rfl, rfl, rfl, by decide +kernel, rfl, by decide +kernel, by decide +kernel⟩
abbrev nm_l_alike : List Str := ["_law_found", "_law_due"]
theorem sc_l_alike : FnScope nm_l_alike ["_law_found", "_law_due"] (defScope s_l_alike) := ⟨rfl, rfl, rfl, by decide +kernel, rfl, by decide +kernel, by decide +kernel⟩
abbrev nm_l_mixed : List Str := ["_law_bag_here", "_law_things", "_law_found", "_law_thing"]
theorem sc_l_mixed : FnScope nm_l_mixed ["_law_bag_here", "_law_things"] (defScope s_l_mixed) := ⟨rfl, rfl, rfl, by decide +kernel, rfl, by decide +kernel, by decide +kernel⟩
abbrev nm_l_pick : List Str := ["_law_bag_here", "_law_things"]
theorem sc_l_pick : FnScope nm_l_pick ["_law_bag_here", "_law_things"] (defScope s_l_pick) := ⟨rfl, rfl, rfl, by decide +kernel, rfl, by decide +kernel, by decide +kernel⟩
abbrev nm_l_table : List Str := ["_law_bag_here", "_law_k"]
theorem sc_l_table : FnScope nm_l_table ["_law_bag_here"] (defScope s_l_table) := ⟨rfl, rfl, rfl, by decide +kernel, rfl, by decide +kernel, by decide +kernel⟩
abbrev nm_l_rule : List Str := ["_law_bag_here", "_law_table_here", "_law_k"]
theorem sc_l_rule : FnScope nm_l_rule ["_law_bag_here"] (defScope s_l_rule) := ⟨rfl, rfl, rfl, by decide +kernel, rfl, by decide +kernel, by decide +kernel⟩
abbrev nm_l_text : List Str := ["_law_bag_here", "_law_rests", "_law_most", "_law_signs_here", "_law_k"]
theorem sc_l_text : FnScope nm_l_text ["_law_bag_here", "_law_rests", "_law_most"] (defScope s_l_text) := ⟨rfl, rfl, rfl, by decide +kernel, rfl, by decide +kernel, by decide +kernel⟩
abbrev nm_l_beat : List Str := ["_law_made", "_law_text_here", "_law_found", "_law_table_here", "_law_rests", "_law_k", "_law_seat", "_law_sides", "_law_one"]
theorem sc_l_beat : FnScope nm_l_beat ["_law_made", "_law_text_here"] (defScope s_l_beat) := ⟨rfl, rfl, rfl, by decide +kernel, rfl, by decide +kernel, by decide +kernel⟩
abbrev nm_l_turned : List Str := ["_law_text_here", "_law_places", "_law_k"]
theorem sc_l_turned : FnScope nm_l_turned ["_law_text_here", "_law_places"] (defScope s_l_turned) := ⟨rfl, rfl, rfl, by decide +kernel, rfl, by decide +kernel, by decide +kernel⟩
abbrev nm_l_signs : List Str := ["_law_rests"]
theorem sc_l_signs : FnScope nm_l_signs ["_law_rests"] (defScope s_l_signs) := ⟨rfl, rfl, rfl, by decide +kernel, rfl, by decide +kernel, by decide +kernel⟩
abbrev nm_l_made_rule : List Str := ["_law_made"]
theorem sc_l_made_rule : FnScope nm_l_made_rule ["_law_made"] (defScope s_l_made_rule) := ⟨rfl, rfl, rfl, by decide +kernel, rfl, by decide +kernel, by decide +kernel⟩
abbrev nm_l_seats : List Str := ["_law_bag_here", "_law_text_here", "_law_some", "_law_seat", "_law_sign"]
theorem sc_l_seats : FnScope nm_l_seats ["_law_bag_here", "_law_text_here"] (defScope s_l_seats) := ⟨rfl, rfl, rfl, by decide +kernel, rfl, by decide +kernel, by decide +kernel⟩
abbrev nm_l_held_beat : List Str := ["_law_made", "_law_text_here", "_law_seats_here", "_law_later", "_law_seat"]
theorem sc_l_held_beat : FnScope nm_l_held_beat ["_law_made", "_law_text_here", "_law_seats_here"] (defScope s_l_held_beat) := ⟨rfl, rfl, rfl, by decide +kernel, rfl, by decide +kernel, by decide +kernel⟩
abbrev nm_l_moment : List Str := ["_law_made", "_law_text_here", "_law_log", "_law_deed_here", "_law_seats_here", "_law_beats", "_law_word", "_law_told", "_law_k", "_law_seat"]
theorem sc_l_moment : FnScope nm_l_moment ["_law_made", "_law_text_here", "_law_log"] (defScope s_l_moment) := ⟨rfl, rfl, rfl, by decide +kernel, rfl, by decide +kernel, by decide +kernel⟩
abbrev nm_l_deed : List Str := ["_law_bag_here", "_law_moment_here", "_law_made", "_law_text_here", "_law_seats_here", "_law_beats", "_law_way", "_law_seat"]
theorem sc_l_deed : FnScope nm_l_deed ["_law_bag_here", "_law_moment_here"] (defScope s_l_deed) := ⟨rfl, rfl, rfl, by decide +kernel, rfl, by decide +kernel, by decide +kernel⟩
abbrev nm_l_can_do : List Str := ["_law_moment_here", "_law_deed_here", "_law_text_here", "_law_seats_here"]
theorem sc_l_can_do : FnScope nm_l_can_do ["_law_moment_here", "_law_deed_here"] (defScope s_l_can_do) := ⟨rfl, rfl, rfl, by decide +kernel, rfl, by decide +kernel, by decide +kernel⟩
abbrev nm_l_did : List Str := ["_law_game", "_law_deed_here", "e", "_law_sorts"]
theorem sc_l_did : FnScope nm_l_did ["_law_game", "_law_deed_here"] (defScope s_l_did) := ⟨rfl, rfl, rfl, by decide +kernel, rfl, by decide +kernel, by decide +kernel⟩
abbrev nm_l_stands_so : List Str := ["_law_game", "_law_made", "_law_text_here", "_law_log", "_law_found", "_law_rule_here", "_law_stand", "_law_seats_here", "_law_beats"]
theorem sc_l_stands_so : FnScope nm_l_stands_so ["_law_game", "_law_made", "_law_text_here", "_law_log"] (defScope s_l_stands_so) := ⟨rfl, rfl, rfl, by decide +kernel, rfl, by decide +kernel, by decide +kernel⟩
abbrev nm_l_turned_back : List Str := ["_law_game", "_law_lists", "_law_way", "e", "_law_found"]
theorem sc_l_turned_back : FnScope nm_l_turned_back ["_law_game", "_law_lists", "_law_way"] (defScope s_l_turned_back) := ⟨rfl, rfl, rfl, by decide +kernel, rfl, by decide +kernel, by decide +kernel⟩
abbrev nm_l_led : List Str := ["_law_bag_here", "_law_game", "_law_made", "_law_text_here", "_law_log", "_law_gone", "_law_many", "_law_k", "_law_way", "_law_moment_here", "_law_deed_here", "_law_good"]
theorem sc_l_led : FnScope nm_l_led ["_law_bag_here", "_law_game", "_law_made", "_law_text_here", "_law_log", "_law_gone", "_law_many"] (defScope s_l_led) := ⟨rfl, rfl, rfl, by decide +kernel, rfl, by decide +kernel, by decide +kernel⟩
abbrev nm_l_begun : List Str := ["_law_bag_here", "_law_made"]
theorem sc_l_begun : FnScope nm_l_begun ["_law_bag_here"] (defScope s_l_begun) := ⟨rfl, rfl, rfl, by decide +kernel, rfl, by decide +kernel, by decide +kernel⟩
abbrev nm_l_beats_right : List Str := ["_law_bag_here", "_law_rule_here", "_law_text_here", "_law_seats_here", "_law_games", "_law_game", "_law_k", "_law_some", "_law_due", "_law_found", "_law_many", "_law_part", "_law_seat", "_law_one"]
theorem sc_l_beats_right : FnScope nm_l_beats_right ["_law_bag_here", "_law_rule_here", "_law_text_here", "_law_seats_here"] (defScope s_l_beats_right) := ⟨rfl, rfl, rfl, by decide +kernel, rfl, by decide +kernel, by decide +kernel⟩
abbrev nm_l_turns_right : List Str := ["_law_bag_here", "_law_rule_here", "_law_text_here", "_law_seats_here", "_law_game", "_law_stand", "_law_far", "_law_places", "_law_many", "_law_games", "_law_seat"]
theorem sc_l_turns_right : FnScope nm_l_turns_right ["_law_bag_here", "_law_rule_here", "_law_text_here", "_law_seats_here"] (defScope s_l_turns_right) := ⟨rfl, rfl, rfl, by decide +kernel, rfl, by decide +kernel, by decide +kernel⟩
abbrev nm_l_apart_right : List Str := ["_law_bag_here", "_law_made", "_law_text_here", "_law_k", "_law_least", "_law_common", "_law_game", "_law_log", "_law_several", "_law_logs", "_law_past", "_law_undone", "_law_deed_here"]
theorem sc_l_apart_right : FnScope nm_l_apart_right ["_law_bag_here", "_law_made", "_law_text_here"] (defScope s_l_apart_right) := ⟨rfl, rfl, rfl, by decide +kernel, rfl, by decide +kernel, by decide +kernel⟩
abbrev nm_law : List Str := ["_law_script", "_law_bag_here", "_law_turn", "_law_game", "_law_seat", "_law_made", "_law_text_here", "_law_rule_here", "_law_seats_here"]
theorem sc_law : FnScope nm_law ["_law_script"] (defScope s_law) := ⟨rfl, rfl, rfl, by decide +kernel, rfl, by decide +kernel, by decide +kernel⟩
section
variable {X : Cx} {e : Expr}
def tNeverE : TE := fun _ _ _ => False
theorem pe_never : PE X e tNeverE := ⟨fun _ _ _ _ _ _ h => h.elim⟩
def tAt (t : L2.St → TE) : TE := fun σ H Q => t σ σ H Q
theorem pe_at {t : L2.St → TE} (h : ∀ σ0, PE X e (t σ0)) : PE X e (tAt t) := ⟨fun pins s σ H Q I q => (h σ).run pins s σ H Q I q⟩
/-- a list or a text by its place, its length -/
def rIxSq (K : PySem.W.Frag) : R2 := fun x y H Q => rIxL K x y H Q ∨ rIxX x y H Q
theorem ix_sq : IxR X (rIxSq X.K) := IxR.or ix_list ix_x
def rLenSq (K : PySem.W.Frag) : List V → Hp → VK → Prop := fun xs H Q => rLenQ K xs H Q ∨ rLenX xs H Q
theorem call_lenSq : CallR X (.builtin "len") (rLenSq X.K) := CallR.or call_len_seq call_lenX
theorem pss_when {b : List Stmt} {t : TS} {c : Prop} (h : c → PSs X b t) : PSs X b (fun D σ H => c ∧ t D σ H) := ⟨fun pins s σ H D I q => (h q.1).run pins s σ H D I q.2⟩
/-- behind a call at the names' values σ -/
theorem run_fnRS {CX : CXT} {k : Nat} {f : Addr} {sp : Sp} {E : XK} {Q : VK} {us : List Value} {vs : List V} {pins : List (Addr × Obj)} {σ : L2.St} {H : Hp} {s : Shared} (F : FnR X.prog X.w X.K X.mg X.base CX k f sp) (hr : Room k X.A) (hx : PassesAt CX X σ E) (I : Inv X pins σ H s)
    (r : Vals vs us) (h : sp vs H Q E) : codeAny (model X.prog X.w) X.A (.call (.ref f) ⟨us, []⟩) (fun r s' => match r with | .ok (.ret v) => EP X pins σ Q v s' | .ok _ => False | .error e => X.xe e s') s := by
  refine codeAny_mono (F X.A X.stack s H us vs Q E hr I.env0 r h) fun r s' hq => ?_
  cases r with
  | error e => exact hx pins H s e s' I hq
  | ok fl =>
    cases fl with
    | ret u => exact I.after hq
    | next => exact False.elim hq
    | brk => exact False.elim hq
    | cont => exact False.elim hq
section
variable {CX : CXT} {k : Nat} {C g : Addr} {sp : Sp} {E : L2.St → XK} {pl : Sem Bool} {o e : Expr} {es : List Expr} {m : Str} {ta : TE} {t : TA} {apos pos : Pos}
theorem pe_methSlS (he : PE X o ta) (c : SlX.SCls X.K C) (hm : Meth X.K C m g) (F : FnR X.prog X.w X.K X.mg X.base CX k g sp) (hr : Room k X.A) (hx : ∀ σ, PassesAt CX X σ (E σ)) (ha : PA X (e :: es) t)
    (hst : starEach (e :: es) X.env = (false, eval e X.env) :: starEach es X.env := by rfl) (hpl : (backTo pos (starEach es X.env)).any (·.1) = false := by rfl)
    (ht : eval (.Call (.Attribute o m apos) (e :: es) [] pos) X.env = (do let ov ← eval o X.env; standAt apos.atName; let (f, first) ← holding [ov] (getMethod ov m pl); callWith pos f first (backTo pos (starEach (e :: es) X.env)) (backToKw pos (keywordEach [] X.env))) := by rfl) :
    PE X (.Call (.Attribute o m apos) (e :: es) [] pos) (tAt fun σ => SlX.tMethSl C sp (E σ) ta t) := by
  refine ⟨fun pins s σ H Q I h => ?_⟩
  refine PySem.W.methodCall_KW (pl := pl) (thn (he.run pins s σ H _ I h) fun u s1 hh => ?_) ht
  obtain ⟨x, H1, I1, rx, a, dx, vs, ex, hsl, q⟩ := hh
  subst ex
  cases (show u = Value.ref a from rx)
  refine SlX.getmethsl_ok I1 hsl c hm (PySem.W.callWith_K (first := [.ref a]) (h₀ := X.base) I.ok.mod.kin hm.kp (thn (ha.run pos pins s1 σ H1 _ I1 q) fun us s2 hh2 => ?_) hst hpl)
  obtain ⟨ws, H2, I2, r, q2⟩ := hh2
  exact ⟨I2.kIn, wpAny_call (run_fnRS (us := .ref a :: us) (vs := .ref a :: ws) F hr (hx σ) I2 (.cons rfl r) q2)⟩
theorem pe_methSl0S (he : PE X o ta) (c : SlX.SCls X.K C) (hm : Meth X.K C m g) (F : FnR X.prog X.w X.K X.mg X.base CX k g sp) (hr : Room k X.A) (hx : ∀ σ, PassesAt CX X σ (E σ))
    (ht : eval (.Call (.Attribute o m apos) [] [] pos) X.env = (do let ov ← eval o X.env; standAt apos.atName; let (f, first) ← holding [ov] (getMethod ov m pl); callWith pos f first (backTo pos (starEach [] X.env)) (backToKw pos (keywordEach [] X.env))) := by rfl) :
    PE X (.Call (.Attribute o m apos) [] [] pos) (tAt fun σ => SlX.tMethSl C sp (E σ) ta tNil) := by
  refine ⟨fun pins s σ H Q I h => ?_⟩
  refine PySem.W.methodCall_KW (pl := pl) (thn (he.run pins s σ H _ I h) fun u s1 hh => ?_) ht
  obtain ⟨x, H1, I1, rx, a, dx, vs, ex, hsl, q⟩ := hh
  subst ex
  cases (show u = Value.ref a from rx)
  exact SlX.getmethsl_ok I1 hsl c hm (PySem.W.callWith_K0 (first := [.ref a]) I1.kIn hm.kp (wpAny_call (run_fnRS (us := [.ref a]) (vs := [.ref a]) F hr (hx σ) I1 (.cons rfl .nil) q)))
end
end
end Sw
namespace Sw
/-! # the mathematics, no program in sight. A text is a list of signs 48, 49, .. -/
def at' (t : List Nat) (i : Int) : Nat := t.getD (i % (t.length : Int)).toNat 0
def cell (tab : List Nat) (r l c q : Nat) : Nat := if c = 48 then tab.getD (2 * (if l = 49 then 1 else 0) + (if q = 49 then 1 else 0)) 0 else if c = 49 + r then 48 else c + 1
def beat (tab : List Nat) (r : Nat) (t : List Nat) : List Nat := (List.range t.length).map fun (i : Nat) => cell tab r (at' t ((i : Int) - 1)) (at' t (i : Int)) (at' t ((i : Int) + 1))
def hBeat (tab : List Nat) (r : Nat) (hs : List Int) (t : List Nat) : List Nat := (List.range t.length).map fun (i : Nat) => if (i : Int) ∈ hs then 48 else (beat tab r t).getD i 0
def turned (t : List Nat) (p : Int) : List Nat := (List.range t.length).map fun (k : Nat) => at' t ((k : Int) - p)
def OkTab (tab : List Nat) : Prop := tab.length = 4 ∧ ∀ c ∈ tab, c = 48 ∨ c = 49
def OkT (r : Nat) (t : List Nat) : Prop := ∀ c ∈ t, 48 ≤ c ∧ c ≤ 49 + r
def itr {α : Type} (f : α → α) : Nat → α → α
  | 0, x => x
  | n + 1, x => f (itr f n x)
theorem itr_add {α : Type} (f : α → α) (a : Nat) : ∀ b x, itr f (a + b) x = itr f b (itr f a x)
  | 0, x => rfl
  | b + 1, x => congrArg f (itr_add f a b x)
/-! ## lengths, signs -/
@[simp] theorem beat_length (tab : List Nat) (r : Nat) (t : List Nat) : (beat tab r t).length = t.length := by simp [beat]
@[simp] theorem hBeat_length (tab : List Nat) (r : Nat) (hs : List Int) (t : List Nat) : (hBeat tab r hs t).length = t.length := by simp [hBeat]
@[simp] theorem turned_length (t : List Nat) (p : Int) : (turned t p).length = t.length := by simp [turned]
theorem getD_mem {t : List Nat} {i : Nat} (h : i < t.length) : t.getD i 0 ∈ t := by
  rw [List.getD_eq_getElem?_getD, List.getElem?_eq_getElem h]
  exact List.getElem_mem h
theorem at'_mem {t : List Nat} (h : t ≠ []) (i : Int) : at' t i ∈ t := by
  have hl : 0 < t.length := List.length_pos_iff.mpr h
  refine getD_mem ?_
  have h1 := Int.emod_nonneg i (b := (t.length : Int)) (by omega)
  have h2 := Int.emod_lt_of_pos i (b := (t.length : Int)) (by omega)
  omega
theorem at'_nat {t : List Nat} {i : Nat} (h : i < t.length) : at' t i = t.getD i 0 := by
  unfold at'
  have : ((i : Int) % (t.length : Int)) = i := Int.emod_eq_of_lt (by omega) (by omega)
  rw [this]
  rfl
theorem cell_ok {tab : List Nat} {r l c q : Nat} (ht : OkTab tab) (hc : 48 ≤ c ∧ c ≤ 49 + r) : 48 ≤ cell tab r l c q ∧ cell tab r l c q ≤ 49 + r := by
  unfold cell
  split
  · have hm : tab.getD (2 * (if l = 49 then 1 else 0) + (if q = 49 then 1 else 0)) 0 ∈ tab := getD_mem (by rw [ht.1]; split <;> split <;> omega)
    rcases ht.2 _ hm with e | e <;> omega
  · split <;> omega
theorem beat_ok {tab : List Nat} {r : Nat} {t : List Nat} (ht : OkTab tab) (h : OkT r t) : OkT r (beat tab r t) := by
  intro c hc
  obtain ⟨i, hi, rfl⟩ := List.mem_map.mp hc
  have hi' := List.mem_range.mp hi
  have hne : t ≠ [] := fun z => by rw [z] at hi'; simp at hi'
  exact cell_ok ht (h _ (at'_mem hne _))
theorem hBeat_ok {tab : List Nat} {r : Nat} {t : List Nat} {hs : List Int} (ht : OkTab tab) (h : OkT r t) : OkT r (hBeat tab r hs t) := by
  intro c hc
  obtain ⟨i, hi, rfl⟩ := List.mem_map.mp hc
  have hi' := List.mem_range.mp hi
  split
  · omega
  · exact beat_ok ht h _ (getD_mem (by simpa using hi'))
theorem turned_ok {r : Nat} {t : List Nat} {p : Int} (h : OkT r t) : OkT r (turned t p) := by
  intro c hc
  obtain ⟨i, hi, rfl⟩ := List.mem_map.mp hc
  have hi' := List.mem_range.mp hi
  have hne : t ≠ [] := fun z => by rw [z] at hi'; simp at hi'
  exact h _ (at'_mem hne _)
theorem itr_hBeat_length (tab : List Nat) (r : Nat) (hs : List Int) : ∀ (k : Nat) (t : List Nat), (itr (hBeat tab r hs) k t).length = t.length
  | 0, t => rfl
  | k + 1, t => by rw [itr, hBeat_length, itr_hBeat_length]
theorem itr_hBeat_ok {tab : List Nat} {r : Nat} {hs : List Int} (ht : OkTab tab) {t : List Nat} (h : OkT r t) : ∀ k : Nat, OkT r (itr (hBeat tab r hs) k t)
  | 0 => h
  | k + 1 => hBeat_ok ht (itr_hBeat_ok ht h k)
theorem map_range_getD (t : List Nat) : (List.range t.length).map (fun i => t.getD i 0) = t := by
  apply List.ext_getElem?
  intro i
  rw [List.getElem?_map]
  by_cases h : i < t.length
  · rw [List.getElem?_range h]
    simp [h]
  · rw [List.getElem?_eq_none (by simpa using h), List.getElem?_eq_none (by simpa using h)]
    rfl
theorem hBeat_nil (tab : List Nat) (r : Nat) (t : List Nat) : hBeat tab r [] t = beat tab r t := by
  have e := map_range_getD (beat tab r t)
  rw [beat_length] at e
  unfold hBeat
  simpa using e
theorem getD_map_range {n : Nat} {f : Nat → Nat} {i : Nat} (h : i < n) : ((List.range n).map f).getD i 0 = f i := by
  rw [List.getD_eq_getElem?_getD, List.getElem?_map, List.getElem?_range h]
  rfl
/-! ## a turn of the ring, then a beat: a beat, then the turn -/
theorem at'_turned {t : List Nat} (p i : Int) : at' (turned t p) i = at' t (i - p) := by
  by_cases h : t = []
  · subst h; rfl
  have hl : (0 : Int) < t.length := by
    have := List.length_pos_iff.mpr h
    omega
  have h1 := Int.emod_nonneg i (b := (t.length : Int)) (by omega)
  have h2 := Int.emod_lt_of_pos i (b := (t.length : Int)) hl
  unfold at'
  rw [turned_length]
  unfold turned
  rw [getD_map_range (by omega)]
  unfold at'
  congr 2
  rw [Int.toNat_of_nonneg h1, Int.emod_sub_emod]
theorem beat_turned (tab : List Nat) (r : Nat) (t : List Nat) (p : Int) : beat tab r (turned t p) = turned (beat tab r t) p := by
  by_cases h : t = []
  · subst h; rfl
  have hl : (0 : Int) < t.length := by
    have := List.length_pos_iff.mpr h
    omega
  have key : ∀ j : Int, at' (beat tab r t) j = cell tab r (at' t (j - 1)) (at' t j) (at' t (j + 1)) := by
    intro j
    have h1 := Int.emod_nonneg j (b := (t.length : Int)) (by omega)
    have h2 := Int.emod_lt_of_pos j (b := (t.length : Int)) hl
    have e : at' (beat tab r t) j = (beat tab r t).getD (j % (t.length : Int)).toNat 0 := by unfold at'; rw [beat_length]
    rw [e]
    unfold beat
    rw [getD_map_range (by omega), Int.toNat_of_nonneg h1]
    unfold at'
    simp only [Int.emod_emod_of_dvd, Int.dvd_refl, Int.emod_sub_emod, Int.emod_add_emod]
  unfold turned
  rw [beat_length]
  unfold beat
  rw [show (List.map (fun k => at' t (↑k - p)) (List.range t.length)).length = t.length by simp]
  refine List.map_congr_left fun i hi => ?_
  have := key ((i : Int) - p)
  unfold beat at this
  rw [this]
  have ht := fun j => at'_turned (t := t) p j
  unfold turned at ht
  rw [ht, ht, ht]
  have e1 : (i : Int) - 1 - p = i - p - 1 := by omega
  have e2 : (i : Int) + 1 - p = i - p + 1 := by omega
  rw [e1, e2]
/-- the seats turned -/
def hTurn (n : Nat) (p : Int) (hs : List Int) : List Int := hs.map fun s => (s + p) % (n : Int)
theorem mem_hTurn {n : Nat} {p : Int} {hs : List Int} (hb : ∀ s ∈ hs, 0 ≤ s ∧ s < (n : Int)) {i : Int} (h0 : 0 ≤ i) (h1 : i < n) : i ∈ hTurn n p hs ↔ (i - p) % (n : Int) ∈ hs := by
  have hn : (0 : Int) < n := by omega
  constructor
  · intro h
    obtain ⟨s, hs', rfl⟩ := List.mem_map.mp h
    have := hb s hs'
    rw [Int.emod_sub_emod, show s + p - p = s by omega, Int.emod_eq_of_lt this.1 this.2]
    exact hs'
  · intro h
    refine List.mem_map.mpr ⟨_, h, ?_⟩
    rw [Int.emod_add_emod, show i - p + p = i by omega, Int.emod_eq_of_lt h0 h1]
theorem hBeat_turned {tab : List Nat} {r : Nat} {t : List Nat} {hs : List Int} (hb : ∀ s ∈ hs, 0 ≤ s ∧ s < (t.length : Int)) {hs' : List Int} (p : Int) (e : ∀ i, i ∈ hs' ↔ i ∈ hTurn t.length p hs) :
    hBeat tab r hs' (turned t p) = turned (hBeat tab r hs t) p := by
  by_cases h : t = []
  · subst h; rfl
  have hl : (0 : Int) < t.length := by
    have := List.length_pos_iff.mpr h
    omega
  unfold hBeat
  rw [turned_length]
  conv => rhs; unfold turned
  rw [show (List.map (fun (i : Nat) => if (i : Int) ∈ hs then 48 else (beat tab r t).getD i 0) (List.range t.length)).length = t.length by simp]
  refine List.map_congr_left fun i hi => ?_
  have hi' : i < t.length := List.mem_range.mp hi
  have h1 := Int.emod_nonneg ((i : Int) - p) (b := (t.length : Int)) (by omega)
  have h2 := Int.emod_lt_of_pos ((i : Int) - p) (b := (t.length : Int)) hl
  have er : at' (List.map (fun (i : Nat) => if (i : Int) ∈ hs then 48 else (beat tab r t).getD i 0) (List.range t.length)) ((i : Int) - p) = if ((i : Int) - p) % (t.length : Int) ∈ hs then 48 else (beat tab r t).getD (((i : Int) - p) % (t.length : Int)).toNat 0 := by
    unfold at'
    rw [show (List.map (fun (i : Nat) => if (i : Int) ∈ hs then 48 else (beat tab r t).getD i 0) (List.range t.length)).length = t.length by simp]
    rw [getD_map_range (f := fun (i : Nat) => if (i : Int) ∈ hs then 48 else (beat tab r t).getD i 0) (by omega)]
    rw [Int.toNat_of_nonneg h1]
  rw [er]
  have m : (i : Int) ∈ hs' ↔ ((i : Int) - p) % (t.length : Int) ∈ hs := (e i).trans (mem_hTurn hb (by omega) (by omega))
  by_cases c : (i : Int) ∈ hs'
  · rw [if_pos c, if_pos (m.mp c)]
  · rw [if_neg c, if_neg (fun z => c (m.mpr z)), beat_turned]
    unfold turned
    rw [beat_length, getD_map_range hi']
    unfold at'
    rw [beat_length]
theorem itr_turned {tab : List Nat} {r : Nat} {t : List Nat} {hs : List Int} (hb : ∀ s ∈ hs, 0 ≤ s ∧ s < (t.length : Int)) {hs' : List Int} (p : Int) (e : ∀ i, i ∈ hs' ↔ i ∈ hTurn t.length p hs) :
    ∀ k : Nat, itr (hBeat tab r hs') k (turned t p) = turned (itr (hBeat tab r hs) k t) p
  | 0 => rfl
  | k + 1 => by
    rw [itr, itr_turned hb p e k, itr]
    refine hBeat_turned ?_ p ?_
    · rw [itr_hBeat_length]; exact hb
    · rw [itr_hBeat_length]; exact e
end Sw
namespace Sw
/-! # deeds -/
def srt (l : List Int) : List Int := l.mergeSort fun a b => decide (a ≤ b)
theorem srt_perm (l : List Int) : (srt l).Perm l := List.mergeSort_perm l _
theorem srt_sorted (l : List Int) : (srt l).Pairwise (· ≤ ·) := by
  have h := List.pairwise_mergeSort (le := fun a b : Int => decide (a ≤ b)) (fun a b c h1 h2 => by simp only [decide_eq_true_eq] at *; omega) (fun a b => by simp only [Bool.or_eq_true, decide_eq_true_eq]; omega) l
  exact h.imp fun {a b} z => of_decide_eq_true z
theorem srt_uniq {l m : List Int} (hp : m.Perm l) (hs : m.Pairwise (· ≤ ·)) : m = srt l :=
  List.Perm.eq_of_pairwise (le := (· ≤ ·)) (fun a b _ _ h1 h2 => Int.le_antisymm h1 h2) hs (srt_sorted l) (hp.trans (srt_perm l).symm)
theorem srt_congr {l m : List Int} (hp : l.Perm m) : srt l = srt m := srt_uniq ((srt_perm l).trans hp) (srt_sorted l)
theorem mem_srt {l : List Int} {i : Int} : i ∈ srt l ↔ i ∈ l := (srt_perm l).mem_iff
@[simp] theorem srt_length (l : List Int) : (srt l).length = l.length := (srt_perm l).length_eq
inductive Deed
  | beats (k : Nat) | seat (i c : Nat) | turn (p : Int) | table (t : List Nat) | hold (i : Nat) | free (i : Nat)
  deriving DecidableEq
structure Mom where
  tab : List Nat
  r : Nat
  t : List Nat
  hs : List Int
  bt : Int
def ap (m : Mom) : Deed → Mom
  | .beats k => { m with t := itr (hBeat m.tab m.r m.hs) k m.t, bt := m.bt + k }
  | .seat i c => { m with t := m.t.take i ++ [c] ++ m.t.drop (i + 1) }
  | .turn p => { m with t := turned m.t p, hs := srt (hTurn m.t.length p m.hs) }
  | .table tb => { m with tab := tb }
  | .hold i => { m with hs := srt (m.hs ++ [(i : Int)]) }
  | .free i => { m with hs := m.hs.filter fun s => !decide (s = (i : Int)) }
def canDo (m : Mom) : Deed → Bool
  | .seat i c => !decide ((i : Int) ∈ m.hs) && !decide (m.t.getD i 0 = c)
  | .hold i => !decide ((i : Int) ∈ m.hs) && decide (m.t.getD i 0 = 48)
  | .free i => decide ((i : Int) ∈ m.hs)
  | _ => true
/-- a deed as is_deed wants it: n places, r rests -/
def Wf (n r : Nat) : Deed → Prop
  | .beats k => 1 ≤ k ∧ k ≤ 50
  | .seat i c => i < n ∧ 48 ≤ c ∧ c ≤ 49 + r
  | .turn p => p.natAbs ≤ 10 ^ 39
  | .table tb => OkTab tb
  | .hold i => i < n
  | .free i => i < n
/-- a moment behind at most k deeds -/
structure MomOk (n r k : Nat) (m : Mom) : Prop where
  rr : m.r = r
  r2 : r ≤ 2
  tab : OkTab m.tab
  n0 : 1 ≤ n
  n1 : n ≤ 100
  len : m.t.length = n
  ok : OkT r m.t
  hs : ∀ s ∈ m.hs, 0 ≤ s ∧ s < (n : Int)
  hl : m.hs.length ≤ k
  b0 : 0 ≤ m.bt
  b1 : m.bt ≤ 50 * k
theorem ap_ok {n r k : Nat} {m : Mom} (h : MomOk n r k m) : ∀ {d : Deed}, Wf n r d → MomOk n r (k + 1) (ap m d)
  | .beats j, w => by
    have w' : 1 ≤ j ∧ j ≤ 50 := w
    refine ⟨h.rr, h.r2, h.tab, h.n0, h.n1, ?_, ?_, h.hs, Nat.le_succ_of_le h.hl, ?_, ?_⟩
    · show (itr (hBeat m.tab m.r m.hs) j m.t).length = n
      rw [itr_hBeat_length]; exact h.len
    · show OkT r (itr (hBeat m.tab m.r m.hs) j m.t)
      rw [h.rr]; exact itr_hBeat_ok h.tab h.ok j
    · show 0 ≤ m.bt + j
      have := h.b0; omega
    · show m.bt + j ≤ 50 * ((k + 1 : Nat) : Int)
      have := h.b1; omega
  | .seat i c, w => by
    have w' : i < n ∧ 48 ≤ c ∧ c ≤ 49 + r := w
    refine ⟨h.rr, h.r2, h.tab, h.n0, h.n1, ?_, ?_, h.hs, Nat.le_succ_of_le h.hl, h.b0, by show m.bt ≤ 50 * ((k + 1 : Nat) : Int); have := h.b1; omega⟩
    · show (m.t.take i ++ [c] ++ m.t.drop (i + 1)).length = n
      have := h.len
      simp; omega
    · show OkT r (m.t.take i ++ [c] ++ m.t.drop (i + 1))
      intro x hx
      rcases List.mem_append.mp hx with hx | hx
      · rcases List.mem_append.mp hx with hx | hx
        · exact h.ok x (List.mem_of_mem_take hx)
        · rw [List.mem_singleton.mp hx]; exact w'.2
      · exact h.ok x (List.mem_of_mem_drop hx)
  | .turn p, _ => by
    have hl := h.len
    have h0 := h.n0
    refine ⟨h.rr, h.r2, h.tab, h.n0, h.n1, ?_, turned_ok h.ok, ?_, ?_, h.b0, by show m.bt ≤ 50 * ((k + 1 : Nat) : Int); have := h.b1; omega⟩
    · show (turned m.t p).length = n
      rw [turned_length]; exact hl
    · intro s hs'
      have hs2 : s ∈ hTurn m.t.length p m.hs := mem_srt.mp hs'
      obtain ⟨x, _, rfl⟩ := List.mem_map.mp hs2
      rw [hl]
      exact ⟨Int.emod_nonneg _ (by omega), Int.emod_lt_of_pos _ (by omega)⟩
    · show (srt (hTurn m.t.length p m.hs)).length ≤ k + 1
      rw [srt_length]
      unfold hTurn
      rw [List.length_map]
      exact Nat.le_succ_of_le h.hl
  | .table tb, w => ⟨h.rr, h.r2, w, h.n0, h.n1, h.len, h.ok, h.hs, Nat.le_succ_of_le h.hl, h.b0, by show m.bt ≤ 50 * ((k + 1 : Nat) : Int); have := h.b1; omega⟩
  | .hold i, w => by
    have w' : i < n := w
    refine ⟨h.rr, h.r2, h.tab, h.n0, h.n1, h.len, h.ok, ?_, ?_, h.b0, by show m.bt ≤ 50 * ((k + 1 : Nat) : Int); have := h.b1; omega⟩
    · intro s hs'
      have hs2 : s ∈ m.hs ++ [(i : Int)] := mem_srt.mp hs'
      rcases List.mem_append.mp hs2 with z | z
      · exact h.hs s z
      · rw [List.mem_singleton.mp z]; omega
    · show (srt (m.hs ++ [(i : Int)])).length ≤ k + 1
      rw [srt_length, List.length_append]
      exact Nat.succ_le_succ h.hl
  | .free i, _ => ⟨h.rr, h.r2, h.tab, h.n0, h.n1, h.len, h.ok, fun s hs' => h.hs s (List.mem_filter.mp hs').1, Nat.le_trans (List.length_filter_le _ _) (Nat.le_succ_of_le h.hl), h.b0, by show m.bt ≤ 50 * ((k + 1 : Nat) : Int); have := h.b1; omega⟩
def replay (m : Mom) (ds : List Deed) : Mom := ds.foldl ap m
theorem replay_snoc (m : Mom) (ds : List Deed) (d : Deed) : replay m (ds ++ [d]) = ap (replay m ds) d := by
  unfold replay
  rw [List.foldl_append]
  rfl
theorem replay_ok {n r : Nat} : ∀ {ds : List Deed} {k : Nat} {m : Mom}, MomOk n r k m → (∀ d ∈ ds, Wf n r d) → MomOk n r (k + ds.length) (replay m ds)
  | [], _, _, h, _ => h
  | d :: ds, k, m, h, w => by
    have := replay_ok (ds := ds) (ap_ok h (w d (by simp))) (fun x hx => w x (by simp [hx]))
    rw [show k + (d :: ds).length = k + 1 + ds.length by simp; omega]
    exact this
def mom0 (tab : List Nat) (r : Nat) (t : List Nat) : Mom := ⟨tab, r, t, [], 0⟩
theorem mom0_ok {tab : List Nat} {r n : Nat} {t : List Nat} (ht : OkTab tab) (hr : r ≤ 2) (h0 : 1 ≤ n) (h1 : n ≤ 100) (hl : t.length = n) (ok : OkT r t) : MomOk n r 0 (mom0 tab r t) :=
  ⟨rfl, hr, ht, h0, h1, hl, ok, fun s h => absurd (show s ∈ ([] : List Int) from h) (by simp), Nat.le_refl _, Int.le_refl _, Int.le_refl _⟩
theorem replay_r (m : Mom) : ∀ ds : List Deed, (replay m ds).r = m.r := by
  intro ds
  induction ds generalizing m with
  | nil => rfl
  | cons d ds ih =>
    show (replay (ap m d) ds).r = m.r
    rw [ih]
    cases d <;> rfl
/-! ## the common beginning of two lists -/
theorem filter_range_anti {p : Nat → Bool} (hp : ∀ i, p (i + 1) = true → p i = true) : ∀ n : Nat, ∃ c, c ≤ n ∧ (List.range n).filter p = List.range c ∧ (c < n → p c = false)
  | 0 => ⟨0, Nat.le_refl _, rfl, fun h => absurd h (Nat.lt_irrefl _)⟩
  | n + 1 => by
    obtain ⟨c, hc, e, hf⟩ := filter_range_anti hp n
    rw [List.range_succ, List.filter_append, e]
    cases hn : p n with
    | false =>
      refine ⟨c, Nat.le_succ_of_le hc, by simp [hn], fun _ => ?_⟩
      rcases Nat.lt_or_eq_of_le hc with z | z
      · exact hf z
      · rw [z]; exact hn
    | true =>
      have hcn : c = n := by
        rcases Nat.lt_or_eq_of_le hc with z | z
        · exfalso
          have down : ∀ j, p (c + j) = true → p c = true := by
            intro j
            induction j with
            | zero => exact fun z => z
            | succ j ih => exact fun z => ih (hp _ z)
          have : p c = true := down (n - c) (by rw [show c + (n - c) = n by omega]; exact hn)
          rw [hf z] at this
          cases this
        · exact z
      subst hcn
      refine ⟨c + 1, Nat.le_refl _, ?_, fun z => absurd z (Nat.lt_irrefl _)⟩
      rw [List.range_succ]
      simp [hn]
theorem common_take {α : Type} [DecidableEq α] (a b : List α) (c : Nat) (h : c = ((List.range (min a.length b.length)).filter fun k => decide (a.take (k + 1) = b.take (k + 1))).length) : c ≤ a.length ∧ c ≤ b.length ∧ a.take c = b.take c := by
  have anti : ∀ i, (fun k => decide (a.take (k + 1) = b.take (k + 1))) (i + 1) = true → (fun k => decide (a.take (k + 1) = b.take (k + 1))) i = true := by
    intro i hi
    simp only [decide_eq_true_eq] at *
    have e1 := congrArg (List.take (i + 1)) hi
    rwa [List.take_take, List.take_take, Nat.min_eq_left (by omega)] at e1
  obtain ⟨d, hd, e, _⟩ := filter_range_anti (p := fun k => decide (a.take (k + 1) = b.take (k + 1))) anti (min a.length b.length)
  rw [e, List.length_range] at h
  subst h
  refine ⟨Nat.le_trans hd (Nat.min_le_left _ _), Nat.le_trans hd (Nat.min_le_right _ _), ?_⟩
  cases c with
  | zero => simp
  | succ k =>
    have : k ∈ (List.range (min a.length b.length)).filter fun k => decide (a.take (k + 1) = b.take (k + 1)) := by rw [e]; exact List.mem_range.mpr (Nat.lt_succ_self _)
    exact of_decide_eq_true (List.mem_filter.mp this).2
end Sw
namespace Sw
open PySem PySem.Spec PyProof.Rows L2
open SX (S S_cat S_len S_inj)
open SlX (SlO SlR putS slH)
/-! # what stands in the heap -/
abbrev W0 : List Nat := [98, 101, 97, 116, 115]
abbrev W1 : List Nat := [115, 101, 97, 116]
abbrev W2 : List Nat := [116, 117, 114, 110]
abbrev W3 : List Nat := [116, 97, 98, 108, 101]
abbrev W4 : List Nat := [104, 111, 108, 100]
abbrev W5 : List Nat := [102, 114, 101, 101]
def dV : Deed → List V
  | .beats k => [.str (S W0), .int k]
  | .seat i c => [.str (S W1), .int i, .str (S [c])]
  | .turn p => [.str (S W2), .int p]
  | .table tb => [.str (S W3), .str (S tb)]
  | .hold i => [.str (S W4), .int i]
  | .free i => [.str (S W5), .int i]
/-! ## objects of slots tell their class -/
def repV : V → Value
  | .non => .none
  | .bl b => .bool b
  | .int i => .int i 0
  | .str x => .str x 0
  | .byt b => .bytes b 0
  | .flt b => .float b 0
  | .ref a => .ref a
  | .ty n => .type n
theorem repV_ok (v : V) : RelV v (repV v) := by
  cases v <;> first | rfl | exact ⟨_, rfl⟩
def repS (vs : List (Option V)) : Array (Option Value) := (vs.map (Option.map repV)).toArray
theorem repS_ok (vs : List (Option V)) : SlR vs (repS vs) := fun i v h => ⟨repV v, by unfold repS; simp [h], repV_ok v⟩
theorem slO_inj {a C dx a' C' dx' : Addr} {vs vs' : List (Option V)} (e : SlO a C dx vs = SlO a' C' dx' vs') : C = C' ∧ SlR vs' (repS vs) := by
  have e' := HO.ext.inj e
  let o : Obj := { PySem.W.instObj C dx with slots := repS vs }
  let h : Heap := { objs := Array.replicate (a + a' + 1) o }
  have hg : ∀ b, b < a + a' + 1 → h.get? b = some o := by
    intro b hb
    show (match (Array.replicate (a + a' + 1) o)[b]? with
      | some ⟨_, _, .freed, _⟩ => none
      | o => o) = some o
    rw [Array.getElem?_replicate, if_pos hb]
  have hφ : ∃ sl, h.get? a = some { PySem.W.instObj C dx with slots := sl } ∧ SlR vs sl := ⟨repS vs, hg a (Nat.lt_succ_of_le (Nat.le_add_right a a')), repS_ok vs⟩
  have hψ : ∃ sl, h.get? a' = some { PySem.W.instObj C' dx' with slots := sl } ∧ SlR vs' sl := by
    have := congrFun e' h
    exact this ▸ hφ
  obtain ⟨sl, q, r⟩ := hψ
  rw [hg a' (Nat.lt_succ_of_le (Nat.le_add_left a' a))] at q
  have q' := Option.some.inj q
  have c1 : (Value.ref C) = Value.ref C' := congrArg Obj.cls q'
  have c2 : repS vs = sl := congrArg Obj.slots q'
  subst c2
  exact ⟨Value.ref.inj c1, r⟩
section
variable {N : Nm}
/-- what nobody writes any more -/
def Prm (N : Nm) (o : HO) : Prop := (∃ xs, o = .tup xs) ∨ o = .xd [] ∨ ∃ a dx x y, o = SlO a N.Rule dx [some x, some y]
theorem Prm.tup {xs : List V} : Prm N (.tup xs) := .inl ⟨xs, rfl⟩
theorem Prm.xd : Prm N (.xd []) := .inr (.inl rfl)
theorem Prm.rule {a dx : Addr} {x y : V} : Prm N (SlO a N.Rule dx [some x, some y]) := .inr (.inr ⟨_, _, _, _, rfl⟩)
theorem not_prm_lst {xs : List V} : ¬ Prm N (.lst xs) := by
  rintro (⟨_, z⟩ | z | ⟨_, _, _, _, z⟩)
  · cases z
  · cases z
  · have z' : HO.lst xs = HO.ext _ := z
    cases z'
theorem not_prm_ins {C dx : Addr} {fs} : ¬ Prm N (.ins C dx fs) := by
  rintro (⟨_, z⟩ | z | ⟨_, _, _, _, z⟩)
  · cases z
  · cases z
  · have z' : HO.ins C dx fs = HO.ext _ := z
    cases z'
theorem not_prm_own {x : Addr} : ¬ Prm N (.own x) := by
  rintro (⟨_, z⟩ | z | ⟨_, _, _, _, z⟩)
  · cases z
  · cases z
  · have z' : HO.own x = HO.ext _ := z
    cases z'
theorem not_prm_slo {a C dx : Addr} {vs : List (Option V)} (h : C ≠ N.Rule) : ¬ Prm N (SlO a C dx vs) := by
  rintro (⟨xs, z⟩ | z | ⟨_, _, _, _, z⟩)
  · have z' : HO.ext _ = HO.tup xs := z
    cases z'
  · exact SlX.slO_not z
  · exact h (slO_inj z).1
theorem not_prm_one {a C dx : Addr} {x : V} : ¬ Prm N (SlO a C dx [none, some x]) := by
  rintro (⟨xs, z⟩ | z | ⟨_, _, y, _, z⟩)
  · have z' : HO.ext _ = HO.tup xs := z
    cases z'
  · exact SlX.slO_not z
  · obtain ⟨u, hu, _⟩ := (slO_inj z).2 0 y rfl
    cases hu
/-- from H to H' only what stands at the addresses of l was written; what is new is new -/
def Kp (N : Nm) (l : List Addr) (H H' : Hp) : Prop := ∀ b o, H b = some o → (b ∉ l ∨ Prm N o) → H' b = some o
theorem Kp.refl {l : List Addr} {H : Hp} : Kp N l H H := fun _ _ h _ => h
theorem Kp.trans {l l' m : List Addr} {H H1 H2 : Hp} (a : Kp N l H H1) (b : Kp N l' H1 H2) (h1 : ∀ x ∈ l, x ∈ m ∨ H x = none) (h2 : ∀ x ∈ l', x ∈ m ∨ H x = none) : Kp N m H H2 := fun x o e q => by
  have n1 : ∀ {l : List Addr}, (∀ x ∈ l, x ∈ m ∨ H x = none) → x ∉ l ∨ Prm N o := fun {l} hl => by
    rcases q with q | q
    · refine .inl fun z => ?_
      rcases hl x z with y | y
      · exact q y
      · rw [e] at y; cases y
    · exact .inr q
  exact b x o (a x o e (n1 h1)) (n1 h2)
theorem Kp.then {l : List Addr} {H H1 H2 : Hp} (a : Kp N l H H1) (b : Kp N l H1 H2) : Kp N l H H2 := a.trans b (fun _ h => .inl h) fun _ h => .inl h
theorem Kp.mono {l m : List Addr} {H H1 : Hp} (a : Kp N l H H1) (h : ∀ x ∈ l, x ∈ m ∨ H x = none) : Kp N m H H1 := a.trans (l' := []) Kp.refl h fun _ z => absurd z (by simp)
theorem Kp.up {m : List Addr} {H H1 : Hp} (a : Kp N [] H H1) : Kp N m H H1 := a.mono fun _ z => absurd z (by simp)
theorem Kp.new {l : List Addr} {H H1 : Hp} {p : Addr} {o : HO} (a : Kp N l H H1) (hp : H1 p = none) : Kp N l H (upd H1 p o) := fun b u e q => by
  have h1 := a b u e q
  rw [upd_ne (ne_of_none h1 hp)]
  exact h1
/-- what was free stays free for the elder -/
theorem Kp.fresh {l : List Addr} {H H1 : Hp} {p : Addr} (a : Kp N l H H1) (h : H1 p = none) : H p = none ∨ p ∈ l := by
  by_cases c : p ∈ l
  · exact .inr c
  · cases e : H p with
    | none => exact .inl rfl
    | some o => rw [a p o e (.inl c)] at h; cases h
theorem Kp.wr {l : List Addr} {H H1 : Hp} {p : Addr} {o : HO} (a : Kp N l H H1) (hp : p ∈ l ∨ H p = none) (np : ∀ u, H1 p = some u → ¬ Prm N u) : Kp N l H (upd H1 p o) := fun b u e q => by
  have h1 := a b u e q
  by_cases c : b = p
  · subst c
    rcases q with q | q
    · rcases hp with hp | hp
      · exact absurd hp q
      · rw [e] at hp; cases hp
    · exact absurd q (np u h1)
  · rw [upd_ne c]
    exact h1
theorem Kp.lst {l : List Addr} {H H1 : Hp} {p : Addr} {xs : List V} {o : HO} (a : Kp N l H H1) (e : H1 p = some (.lst xs)) (hp : p ∈ l ∨ H p = none) : Kp N l H (upd H1 p o) :=
  a.wr hp fun u hu => by rw [e] at hu; cases hu; exact not_prm_lst
/-- a slot's store -/
theorem Kp.sl {l : List Addr} {H H1 : Hp} {p C dx : Addr} {vs : List (Option V)} (a : Kp N l H H1) (hne : p ≠ dx) (hp : p ∈ l ∨ H p = none) (np : ∀ u, H1 p = some u → ¬ Prm N u) (hd : H1 dx = some (.xd []) ∨ ((dx ∈ l ∨ H dx = none) ∧ ∃ x, H1 dx = some (.own x))) : Kp N l H (slH H1 p C dx vs) := by
  have h1 : Kp N l H (upd H1 dx (.xd [])) := by
    rcases hd with hd | ⟨hd, x, hx⟩
    · intro b u e q
      have := a b u e q
      by_cases c : b = dx
      · subst c
        rw [hd] at this
        rw [upd_same]
        exact this
      · rw [upd_ne c]; exact this
    · exact a.wr hd fun u hu => by rw [hx] at hu; cases hu; exact not_prm_own
  exact h1.wr hp fun u hu => by rw [upd_ne hne] at hu; exact np u hu
/-! ## the program's things -/
/-- an instance whose slots have been stored into -/
structure SlA (H : Hp) (a C dx : Addr) (vs : List (Option V)) : Prop where
  at_ : H a = some (SlO a C dx vs)
  dx : H dx = some (.xd [])
theorem SlA.slt {H : Hp} {a C dx : Addr} {vs : List (Option V)} (h : SlA H a C dx vs) : SlX.Slt H a C dx vs := .inr ⟨h.at_, h.dx⟩
theorem SlA.ne {H : Hp} {a C dx : Addr} {vs : List (Option V)} (h : SlA H a C dx vs) : a ≠ dx := fun z => by
  subst z
  exact SlX.slO_not (Option.some.inj (h.at_.symm.trans h.dx))
theorem SlA.keep {l : List Addr} {H H' : Hp} {a C dx : Addr} {vs : List (Option V)} (h : SlA H a C dx vs) (k : Kp N l H H') (ha : a ∉ l) : SlA H' a C dx vs := ⟨k _ _ h.at_ (.inl ha), k _ _ h.dx (.inr Prm.xd)⟩
/-- behind a store -/
theorem slA_put {H : Hp} {a C dx : Addr} {vs : List (Option V)} (h : dx ≠ a) : SlA (slH H a C dx vs) a C dx vs := ⟨upd_same, by unfold slH; rw [upd_ne h]; exact upd_same⟩
theorem slO_lst {a C dx : Addr} {vs : List (Option V)} {xs : List V} : SlO a C dx vs ≠ .lst xs := fun z => by
  have z' : HO.ext _ = HO.lst xs := z
  cases z'
theorem slO_tup {a C dx : Addr} {vs : List (Option V)} {xs : List V} : SlO a C dx vs ≠ .tup xs := fun z => by
  have z' : HO.ext _ = HO.tup xs := z
  cases z'
/-- a rule -/
def RuleAt (N : Nm) (H : Hp) (r : Addr) (tab : List Nat) (k : Nat) : Prop := ∃ dr, SlA H r N.Rule dr [some (.int k), some (.str (S tab))]
theorem RuleAt.keep {l : List Addr} {H H' : Hp} {r : Addr} {tab : List Nat} {k : Nat} (h : RuleAt N H r tab k) (q : Kp N l H H') : RuleAt N H' r tab k := by
  obtain ⟨dr, e⟩ := h
  exact ⟨dr, q _ _ e.at_ (.inr Prm.rule), q _ _ e.dx (.inr Prm.xd)⟩
/-- refs to deeds -/
def DeedsV (H : Hp) (vs : List V) (ds : List Deed) : Prop := ∃ L : List (Addr × Deed), vs = L.map (fun p => V.ref p.1) ∧ (∀ p ∈ L, H p.1 = some (.tup (dV p.2))) ∧ L.map (·.2) = ds
def LogAt (H : Hp) (a : Addr) (ds : List Deed) : Prop := ∃ vs, H a = some (.lst vs) ∧ DeedsV H vs ds
theorem DeedsV.keep {l : List Addr} {H H' : Hp} {vs : List V} {ds : List Deed} (h : DeedsV H vs ds) (k : Kp N l H H') : DeedsV H' vs ds := by
  obtain ⟨L, e1, e2, e3⟩ := h
  exact ⟨L, e1, fun p hp => k _ _ (e2 p hp) (.inr Prm.tup), e3⟩
theorem LogAt.keep {l : List Addr} {H H' : Hp} {a : Addr} {ds : List Deed} (h : LogAt H a ds) (k : Kp N l H H') (ha : a ∉ l) : LogAt H' a ds := by
  obtain ⟨vs, e, d⟩ := h
  exact ⟨vs, k _ _ e (.inl ha), d.keep k⟩
theorem DeedsV.length {H : Hp} {vs : List V} {ds : List Deed} (h : DeedsV H vs ds) : vs.length = ds.length := by
  obtain ⟨L, rfl, _, rfl⟩ := h
  simp
theorem DeedsV.nil {H : Hp} : DeedsV H [] [] := ⟨[], rfl, fun _ z => absurd z (by simp), rfl⟩
theorem DeedsV.snoc {H : Hp} {vs : List V} {ds : List Deed} {a : Addr} {d : Deed} (h : DeedsV H vs ds) (e : H a = some (.tup (dV d))) : DeedsV H (vs ++ [.ref a]) (ds ++ [d]) := by
  obtain ⟨L, rfl, e2, rfl⟩ := h
  refine ⟨L ++ [(a, d)], by simp, fun p hp => ?_, by simp⟩
  rcases List.mem_append.mp hp with q | q
  · exact e2 p q
  · rw [List.mem_singleton.mp q]; exact e
theorem DeedsV.append {H : Hp} {vs ws : List V} {ds es : List Deed} (h : DeedsV H vs ds) (g : DeedsV H ws es) : DeedsV H (vs ++ ws) (ds ++ es) := by
  obtain ⟨L, rfl, e2, rfl⟩ := h
  obtain ⟨M, rfl, f2, rfl⟩ := g
  refine ⟨L ++ M, by simp, fun p hp => ?_, by simp⟩
  rcases List.mem_append.mp hp with q | q
  · exact e2 p q
  · exact f2 p q
theorem DeedsV.take {H : Hp} {vs : List V} {ds : List Deed} (n : Nat) (h : DeedsV H vs ds) : DeedsV H (vs.take n) (ds.take n) := by
  obtain ⟨L, rfl, e2, rfl⟩ := h
  exact ⟨L.take n, by rw [List.map_take], fun p hp => e2 p (List.mem_of_mem_take hp), by rw [List.map_take]⟩
theorem DeedsV.drop {H : Hp} {vs : List V} {ds : List Deed} (n : Nat) (h : DeedsV H vs ds) : DeedsV H (vs.drop n) (ds.drop n) := by
  obtain ⟨L, rfl, e2, rfl⟩ := h
  exact ⟨L.drop n, by rw [List.map_drop], fun p hp => e2 p (List.mem_of_mem_drop hp), by rw [List.map_drop]⟩
theorem DeedsV.reverse {H : Hp} {vs : List V} {ds : List Deed} (h : DeedsV H vs ds) : DeedsV H vs.reverse ds.reverse := by
  obtain ⟨L, rfl, e2, rfl⟩ := h
  exact ⟨L.reverse, by rw [List.map_reverse], fun p hp => e2 p (List.mem_reverse.mp hp), by rw [List.map_reverse]⟩
theorem DeedsV.dropLast {H : Hp} {vs : List V} {ds : List Deed} (h : DeedsV H vs ds) : DeedsV H vs.dropLast ds.dropLast := by
  rw [List.dropLast_eq_take, List.dropLast_eq_take, h.length]
  exact h.take _
theorem DeedsV.get {H : Hp} {vs : List V} {ds : List Deed} {i : Nat} {d : Deed} (h : DeedsV H vs ds) (e : ds[i]? = some d) : ∃ a, vs[i]? = some (.ref a) ∧ H a = some (.tup (dV d)) := by
  obtain ⟨L, rfl, e2, rfl⟩ := h
  rw [List.getElem?_map] at e
  cases q : L[i]? with
  | none => rw [q] at e; cases e
  | some p =>
    rw [q] at e
    cases e
    exact ⟨p.1, by rw [List.getElem?_map, q]; rfl, e2 p (List.mem_of_getElem? q)⟩
/-- a moment: m, its dict, its list of held seats -/
def MomAt (N : Nm) (H : Hp) (m : Addr) (own : List Addr) (M : Mom) : Prop := ∃ dm r hl, own = [m, dm, hl] ∧ SlA H m N.Moment dm [some (.int M.bt), some (.ref hl), some (.ref r), some (.str (S M.t))] ∧ RuleAt N H r M.tab M.r ∧ H hl = some (.lst (M.hs.map V.int))
theorem MomAt.keep {l own : List Addr} {H H' : Hp} {m : Addr} {M : Mom} (h : MomAt N H m own M) (k : Kp N l H H') (d : ∀ b ∈ own, b ∉ l) : MomAt N H' m own M := by
  obtain ⟨dm, r, hl, rfl, e1, e2, e3⟩ := h
  exact ⟨dm, r, hl, rfl, e1.keep k (d _ (by simp)), e2.keep k, k _ _ e3 (.inl (d _ (by simp)))⟩
theorem MomAt.dom {own : List Addr} {H : Hp} {m : Addr} {M : Mom} (h : MomAt N H m own M) : ∀ b ∈ own, ∃ o, H b = some o := by
  obtain ⟨dm, r, hl, rfl, e1, e2, e3⟩ := h
  intro b hb
  simp only [List.mem_cons, List.not_mem_nil, or_false] at hb
  rcases hb with rfl | rfl | rfl
  · exact ⟨_, e1.at_⟩
  · exact ⟨_, e1.dx⟩
  · exact ⟨_, e3⟩
/-- a game as it is told -/
structure GS where
  tab : List Nat
  r : Nat
  t : List Nat
  log : List Deed
  gone : List Deed
def GS.mom (G : GS) : Mom := replay (mom0 G.tab G.r G.t) G.log
def GameAt (N : Nm) (H : Hp) (g : Addr) (own : List Addr) (G : GS) : Prop := ∃ dg r L U m ownM, own = g :: dg :: L :: U :: ownM ∧ SlA H g N.Game dg [some (.ref r), some (.str (S G.t)), some (.ref L), some (.ref m), some (.ref U)] ∧ RuleAt N H r G.tab G.r ∧
  LogAt H L G.log ∧ LogAt H U G.gone ∧ L ≠ U ∧ MomAt N H m ownM G.mom ∧ ∀ b ∈ ownM, b ≠ g ∧ b ≠ dg ∧ b ≠ L ∧ b ≠ U
theorem GameAt.keep {l own : List Addr} {H H' : Hp} {g : Addr} {G : GS} (h : GameAt N H g own G) (k : Kp N l H H') (d : ∀ b ∈ own, b ∉ l) : GameAt N H' g own G := by
  obtain ⟨dg, r, L, U, m, ownM, rfl, e1, e2, e3, e4, e5, e6, e7⟩ := h
  exact ⟨dg, r, L, U, m, ownM, rfl, e1.keep k (d _ (by simp)), e2.keep k, e3.keep k (d _ (by simp)), e4.keep k (d _ (by simp)), e5, e6.keep k fun b hb => d b (by simp [hb]), e7⟩
theorem GameAt.dom {own : List Addr} {H : Hp} {g : Addr} {G : GS} (h : GameAt N H g own G) : ∀ b ∈ own, ∃ o, H b = some o := by
  obtain ⟨dg, r, L, U, m, ownM, rfl, e1, e2, ⟨_, e3, _⟩, ⟨_, e4, _⟩, e5, e6, e7⟩ := h
  intro b hb
  simp only [List.mem_cons] at hb
  rcases hb with rfl | rfl | rfl | rfl | hb
  · exact ⟨_, e1.at_⟩
  · exact ⟨_, e1.dx⟩
  · exact ⟨_, e3⟩
  · exact ⟨_, e4⟩
  · exact e6.dom b hb
/-- own' is own, or new -/
def Grow (H : Hp) (own own' : List Addr) : Prop := ∀ b ∈ own', b ∈ own ∨ H b = none
theorem Grow.refl {H : Hp} {own : List Addr} : Grow H own own := fun _ h => .inl h
theorem Grow.trans {l : List Addr} {H H1 : Hp} {o1 o2 o3 : List Addr} (a : Grow H o1 o2) (b : Grow H1 o2 o3) (k : Kp N l H H1) (hl : ∀ x ∈ l, x ∈ o1 ∨ H x = none) : Grow H o1 o3 := fun x hx => by
  rcases b x hx with h | h
  · exact a x h
  · rcases k.fresh h with q | q
    · exact .inr q
    · exact hl x q
/-- what the one owns stands apart from the other's, behind a step too -/
theorem apart {H : Hp} {o1 o1' o2 : List Addr} (d : ∀ b ∈ o2, b ∉ o1) (g : Grow H o1 o1') (dom : ∀ b ∈ o2, ∃ o, H b = some o) : ∀ b ∈ o2, b ∉ o1' := fun b hb z => by
  rcases g b z with h | h
  · exact d b hb h
  · obtain ⟨o, e⟩ := dom b hb
    rw [e] at h; cases h
theorem not_grown {H : Hp} {o1 o1' : List Addr} {b : Addr} {o : HO} (d : b ∉ o1) (g : Grow H o1 o1') (e : H b = some o) : b ∉ o1' := fun z => by
  rcases g b z with h | h
  · exact d h
  · rw [e] at h; cases h
end
end Sw
namespace Sw
open PySem PySem.Spec PyProof.Rows L2
open SX (S S_cat S_len S_inj)
open SlX (SlO SlR putS slH)
/-! # helps for readings -/
theorem isi_of {K : PySem.W.Frag} {H : Hp} {Q : VK} {x : V} {a T : String} {b : Bool} (t : TyX K H x (.type a)) (h : kitB a T = some b) (q : Q (.bl b) H) : rIsi K [x, .ty T] H Q := ⟨_, _, _, _, b, rfl, .ty _, t, kit_ty h, q⟩
theorem size_ok {n : Nat} (h : n ≤ 1000000) : n < sizeLine := Nat.lt_of_le_of_lt h (by decide)
theorem size_le {n : Nat} (h : n ≤ 1000000) : n ≤ sizeLine := Nat.le_of_lt (size_ok h)
theorem and_t {A B : Prop} (h : A) : if true = true then A else B := h
/-- what is new to H may be written -/
theorem Kp.put {N : Nm} {l : List Addr} {H H1 : Hp} {p : Addr} {o : HO} (a : Kp N l H H1) (hp : H p = none) : Kp N l H (upd H1 p o) := fun b u e q => by
  rw [upd_ne (ne_of_none e hp)]
  exact a b u e q
/-- the list at D holds acc, of which R tells -/
def LcN (D : Addr) (R : Nat → List V → Hp → Prop) (i : Nat) (H : Hp) : Prop := ∃ acc, H D = some (.lst acc) ∧ R i acc H
theorem LcN.add {D : Addr} {R : Nat → List V → Hp → Prop} {i : Nat} {H : Hp} {acc : List V} {y : V} (e : H D = some (.lst acc)) (z : acc.length < sizeLine) (r : R (i + 1) (acc ++ [y]) (upd H D (.lst (acc ++ [y])))) :
    ∃ acc, H D = some (.lst acc) ∧ acc.length < sizeLine ∧ LcN D R (i + 1) (upd H D (.lst (acc ++ [y]))) := ⟨acc, e, z, _, upd_same, r⟩
/-- a comprehension over what w walks; R by the turn and what is made -/
theorem lc_acc {J : It} {n : Nat} {G : Hp → Prop} {Y : Nat → Hp → V → Hp → Prop} (w : Walk J n G Y) {g : TG} {tt : TT} {te : TE} {vs : List Nat} {σ : L2.St} {H1 : Hp} {D : Addr} {Qd : Hp → Prop} (R : Nat → List V → Hp → Prop) (hn : n ≤ 100000) (h0 : R 0 [] (upd H1 D (.lst [])))
    (hl : ∀ i acc H, R i acc H → acc.length ≤ i) (hG : ∀ i acc H, i ≤ n → H D = some (.lst acc) → R i acc H → G H)
    (hs : ∀ i x acc H H', i < n → H D = some (.lst acc) → acc.length < sizeLine → R i acc H → Y i H x H' → g x (wipe σ vs) H' fun σ2 H2 => wipe σ2 vs = wipe σ vs ∧ tt σ2 H2 fun b H3 =>
      if b = true then te σ2 H3 fun y H4 => ∃ acc, H4 D = some (.lst acc) ∧ acc.length < sizeLine ∧ LcN D R (i + 1) (upd H4 D (.lst (acc ++ [y]))) else LcN D R (i + 1) H3)
    (hd : ∀ acc H, H D = some (.lst acc) → R n acc H → Qd H) :
    ∃ W : Nat → Nat → Hp → Prop, (∃ m, W 0 m (upd H1 D (.lst []))) ∧ ∀ i m H, W i m H →
      (J.stop i H ∧ Qd H) ∨ (J.go i H ∧ ∃ Nx : Hp → Prop, (∀ H', Nx H' → ∃ m', m' < m ∧ W (i + 1) m' H') ∧ ∀ x H', J.yld i H x H' → g x (wipe σ vs) H' fun σ2 H2 => wipe σ2 vs = wipe σ vs ∧ tt σ2 H2 fun b H3 =>
        if b = true then te σ2 H3 fun y H4 => ∃ acc, H4 D = some (.lst acc) ∧ acc.length < sizeLine ∧ Nx (upd H4 D (.lst (acc ++ [y]))) else Nx H3) :=
  lc_it w (LcN D R) ⟨[], upd_same, h0⟩ (fun i H hi ⟨acc, e, r⟩ => hG i acc H hi e r) (fun i x H H' hi ⟨acc, e, r⟩ y => hs i x acc H H' hi e (Nat.lt_of_le_of_lt (hl i acc H r) (size_ok (by omega))) r y) fun H ⟨acc, e, r⟩ => hd acc H e r
theorem flat_map {n : Nat} {f : Nat → Nat} : (((List.range n).map fun i => [f i]).flatten) = (List.range n).map f := by
  induction n with
  | zero => rfl
  | succ n ih => rw [List.range_succ, List.map_append, List.flatten_append, ih, List.map_append]; rfl
theorem sum_one {n : Nat} {f : Nat → Nat} : (((List.range n).map fun i => [f i]).map (·.length)).sum = n := by
  induction n with
  | zero => rfl
  | succ n ih => rw [List.range_succ, List.map_append, List.map_append, List.sum_append, ih]; rfl
theorem dec_rfl {α : Type} [DecidableEq α] {a : α} : decide (a = a) = true := decide_eq_true rfl
theorem range_snoc {α : Type} {i : Nat} {f : Nat → α} : (List.range (i + 1)).map f = (List.range i).map f ++ [f i] := by
  rw [List.range_succ, List.map_append]; rfl
theorem inV_ints {i : Int} : ∀ {hs : List Int}, inV (.int i) (hs.map V.int) = decide (i ∈ hs)
  | [] => by simp [inV]
  | a :: hs => by
    have ih := inV_ints (i := i) (hs := hs)
    unfold inV at ih ⊢
    rw [List.map_cons, List.any_cons, ih]
    by_cases e : a = i
    · subst e; simp [eqV]
    · have e' : i ≠ a := fun z => e z.symm
      simp [eqV, e, e']
theorem flat_ints (hs : List Int) : (hs.map V.int).all flatV = true := by
  rw [List.all_map]
  exact List.all_eq_true.mpr fun _ _ => rfl
theorem ixN_in {n : Nat} {i : Int} (h0 : 0 ≤ i) (h1 : i < n) : ixN n i = some i.toNat := by
  unfold ixN
  rw [if_pos h0, if_pos h1]
theorem atI_getD {t : List Nat} {i : Int} (h0 : 0 ≤ i) (h1 : i < t.length) : atI t i = some (t.getD i.toNat 0) := by
  unfold atI
  rw [ixN_in h0 h1, Option.bind_some, List.getElem?_eq_getElem (by omega), List.getD_eq_getElem?_getD, List.getElem?_eq_getElem (by omega)]
  rfl
theorem atI_m1 {t : List Nat} (h : t ≠ []) : atI t (-1) = some (t.getD (t.length - 1) 0) := by
  have := List.length_pos_iff.mpr h
  unfold atI ixN
  rw [if_neg (by omega), if_pos (by omega), Option.bind_some]
  have e : ((-1 : Int) + t.length).toNat = t.length - 1 := by omega
  rw [e, List.getElem?_eq_getElem (by omega), List.getD_eq_getElem?_getD, List.getElem?_eq_getElem (by omega)]
  rfl
end Sw
namespace Sw
open PySem PySem.Spec PyProof.Rows L2
open SX (S S_cat S_len S_inj)
open SlX (SlO SlR putS slH)
abbrev Eo (Q : VK) : Ends := { nx := fun _ H' => Q .non H', rt := Q }
section
variable {K : PySem.W.Frag} {w : World} {mg : Str → Option Value} {N : Nm} {base : Heap}
/-! ## kinds -/
def sp_is_integer (K : PySem.W.Frag) (N : Nm) : Sp := fun vs H Q _ => ∃ i : Int, vs = [.int i] ∧ Q (.bl true) H
def t_is_integer (K : PySem.W.Frag) (N : Nm) : TS :=
 (tRet (tAndV (tCB (rIsi K) (tCons (tVar 0) (tCons (tC (.ty "int")) tNil))) (tNotV (tCB (rIsi K) (tCons (tVar 0) (tCons (tC (.ty "bool")) tNil))))))
theorem pure_is_integer (T : Txt K w mg N) (vs : List V) (H : Hp) (Q : VK) (E : XK) (h : sp_is_integer K N vs H Q E) : t_is_integer K N (Eo Q) (start nm_is_integer vs) H := by
  obtain ⟨i, rfl, q⟩ := h
  refine ⟨_, rfl, _, _, _, _, true, rfl, .ty _, .base (.int i), kit_ty (by decide +kernel), _, rfl, iteT ?_⟩
  exact ⟨_, rfl, _, _, _, _, false, rfl, .ty _, .base (.int i), kit_ty (by decide +kernel), _, rfl, q⟩
theorem ok_is_integer (T : Txt K w mg N) : FnR Pw w K mg base CX0 4 N.is_integer (sp_is_integer K N) := by
  obtain ⟨fd, F, b⟩ := T.d_is_integer
  exact mk_fn F b sc_is_integer (fun vs H Q E h => by (repeat (first | (obtain ⟨rfl, _⟩ := h; rfl) | (obtain ⟨_, h⟩ := h)))) fun cdv A outer s H vs Q E hr h => ⟨t_is_integer K N, (PSs.nox (by exact (pss_one (ps_ret (pe_and (pe_callB call_isi rfl T.n_isinstance bt_isinstance (pa_cons (pv 0) (pa_cons (pe_bltn rfl T.n_int bt_int rfl) pa_nil))) (pe_one (pe_not (pe_callB call_isi rfl T.n_isinstance bt_isinstance (pa_cons (pv 0) (pa_cons (pe_bltn rfl T.n_bool bt_bool rfl) pa_nil)))))))))), pure_is_integer T vs H Q E h⟩
def sp_is_count (K : PySem.W.Frag) (N : Nm) : Sp := fun vs H Q _ => ∃ i : Int, vs = [.int i] ∧ Q (.bl (decide (0 ≤ i))) H
def t_is_count (K : PySem.W.Frag) (N : Nm) : TS :=
 (tRet (tAndV (tCl (sp_is_integer K N) E0 (tCons (tVar 0) tNil)) (tOp rGeI (tVar 0) (tC (.int 0)))))
theorem pure_is_count (T : Txt K w mg N) (vs : List V) (H : Hp) (Q : VK) (E : XK) (h : sp_is_count K N vs H Q E) : t_is_count K N (Eo Q) (start nm_is_count vs) H := by
  obtain ⟨i, rfl, q⟩ := h
  exact ⟨_, rfl, _, rfl, _, rfl, iteT ⟨_, rfl, _, _, rfl, rfl, q⟩⟩
theorem ok_is_count (T : Txt K w mg N) : FnR Pw w K mg base CX0 5 N.is_count (sp_is_count K N) := by
  obtain ⟨fd, F, b⟩ := T.d_is_count
  exact mk_fn F b sc_is_count (fun vs H Q E h => by (repeat (first | (obtain ⟨rfl, _⟩ := h; rfl) | (obtain ⟨_, h⟩ := h)))) fun cdv A outer s H vs Q E hr h => ⟨t_is_count K N, (PSs.nox (by exact (pss_one (ps_ret (pe_and (pe_cl (ok_is_integer T) (hr.mono (by decide)) rfl T.g_is_integer T.k_is_integer pass0 (pa_cons (pv 0) pa_nil)) (pe_one (pe_cmpR op_ge (pv 0) pe_int (nomark _)))))))), pure_is_count T vs H Q E h⟩
def sp_is_number (K : PySem.W.Frag) (N : Nm) : Sp := fun vs H Q _ => ∃ i : Int, vs = [.int i] ∧ Q (.bl (decide (1 ≤ i))) H
def t_is_number (K : PySem.W.Frag) (N : Nm) : TS :=
 (tRet (tAndV (tCl (sp_is_integer K N) E0 (tCons (tVar 0) tNil)) (tOp rGeI (tVar 0) (tC (.int 1)))))
theorem pure_is_number (T : Txt K w mg N) (vs : List V) (H : Hp) (Q : VK) (E : XK) (h : sp_is_number K N vs H Q E) : t_is_number K N (Eo Q) (start nm_is_number vs) H := by
  obtain ⟨i, rfl, q⟩ := h
  exact ⟨_, rfl, _, rfl, _, rfl, iteT ⟨_, rfl, _, _, rfl, rfl, q⟩⟩
theorem ok_is_number (T : Txt K w mg N) : FnR Pw w K mg base CX0 5 N.is_number (sp_is_number K N) := by
  obtain ⟨fd, F, b⟩ := T.d_is_number
  exact mk_fn F b sc_is_number (fun vs H Q E h => by (repeat (first | (obtain ⟨rfl, _⟩ := h; rfl) | (obtain ⟨_, h⟩ := h)))) fun cdv A outer s H vs Q E hr h => ⟨t_is_number K N, (PSs.nox (by exact (pss_one (ps_ret (pe_and (pe_cl (ok_is_integer T) (hr.mono (by decide)) rfl T.g_is_integer T.k_is_integer pass0 (pa_cons (pv 0) pa_nil)) (pe_one (pe_cmpR op_ge (pv 0) pe_int (nomark _)))))))), pure_is_number T vs H Q E h⟩
def sp_is_row (K : PySem.W.Frag) (N : Nm) : Sp := fun vs H Q _ => ∃ a b : List Nat, vs = [.str (S a), .str (S b)] ∧ a.length ≤ 1000 ∧ ∀ H', Kp N [] H H' → Q (.bl (a.all fun c => decide (c ∈ b))) H'
def t_is_row (K : PySem.W.Frag) (N : Nm) : TS :=
 (tRet (tAndV (tCB (rIsi K) (tCons (tVar 0) (tCons (tC (.ty "str")) tNil))) (tCB (rAll K) (tCons (tLc (iStr (tVar 0)) (gName 2) tYes (tOp rInX (tVar 2) (tVar 1)) [2]) tNil))))
theorem pure_is_row (T : Txt K w mg N) (vs : List V) (H : Hp) (Q : VK) (E : XK) (h : sp_is_row K N vs H Q E) : t_is_row K N (Eo Q) (start nm_is_row vs) H := by
  obtain ⟨a, b, rfl, hl, q⟩ := h
  refine ⟨_, rfl, _, _, _, _, true, rfl, .ty _, .base (.str (S a)), kit_ty (by decide +kernel), _, rfl, iteT ?_⟩
  refine ⟨_, rfl, S a, rfl, fun D hD => ?_⟩
  refine lc_acc walk_str (fun i acc H' => acc = ((a.take i).map fun c => V.bl (decide (c ∈ b))) ∧ Kp N [] H H') (n := (S a).cps.size) (by show a.toArray.size ≤ _; simp; omega) ⟨rfl, Kp.refl.new hD⟩ (fun i acc H' r => by rw [r.1]; simp; omega) (fun _ _ _ _ _ _ => trivial) ?_ ?_
  · rintro i x acc H1 H' hi e z ⟨rfl, k⟩ ⟨rfl, c, hc, rfl⟩
    have hc' : a[i]? = some c := by simpa [S] using hc
    refine ⟨rfl, _, rfl, _, rfl, c, b, rfl, rfl, LcN.add e z ⟨?_, k.put hD⟩⟩
    rw [List.take_add_one, hc']
    simp
  · rintro acc H1 e ⟨rfl, k⟩
    refine ⟨D, a.map fun c => decide (c ∈ b), rfl, .inl (.inl ?_), ?_⟩
    · rw [e, List.map_map, List.take_of_length_le (by show a.length ≤ a.toArray.size; simp)]
      rfl
    · have e2 : ((a.map fun c => decide (c ∈ b)).all id) = a.all fun c => decide (c ∈ b) := by rw [List.all_map]; rfl
      rw [e2]
      exact q _ k
theorem ok_is_row (T : Txt K w mg N) : FnR Pw w K mg base CX0 4 N.is_row (sp_is_row K N) := by
  obtain ⟨fd, F, b⟩ := T.d_is_row
  exact mk_fn F b sc_is_row (fun vs H Q E h => by (repeat (first | (obtain ⟨rfl, _⟩ := h; rfl) | (obtain ⟨_, h⟩ := h)))) fun cdv A outer s H vs Q E hr h => ⟨t_is_row K N, (PSs.nox (by exact (pss_one (ps_ret (pe_and (pe_callB call_isi rfl T.n_isinstance bt_isinstance (pa_cons (pv 0) (pa_cons (pe_bltn rfl T.n_str bt_str rfl) pa_nil))) (pe_one (pe_callB (cr_all rfl) rfl T.n_all bt_all (pa_cons (pe_lc (own := [(("sign" : Str), 2)]) (g := (gName 2)) (tt := tYes) rfl sc_is_row.nd (pi_str (pv 0)) (blkOk_by (N := nm_is_row) (sc := defScope s_is_row) (by decide +kernel)) (fun _ _ _ _ _ => (pg_name (i := 2) sc_is_row.nd rfl (Or.inl rfl))) (fun _ _ _ _ _ => pts_nil) (fun _ _ _ _ _ => (pe_cmpR op_inX (pv 2) (pv 1) (by with_unfolding_all rfl)))) pa_nil)))))))), pure_is_row T vs H Q E h⟩
def sp_is_stand (K : PySem.W.Frag) (N : Nm) : Sp := fun vs H Q _ => ∃ a b : List Nat, vs = [.str (S a), .str (S b)] ∧ a.length ≤ 1000 ∧ a ≠ [] ∧ (∀ c ∈ a, c ∈ b) ∧ ∀ H', Kp N [] H H' → Q (.bl true) H'
def t_is_stand (K : PySem.W.Frag) (N : Nm) : TS :=
 (tRet (tAndV (tCl (sp_is_row K N) E0 (tCons (tVar 0) (tCons (tVar 1) tNil))) (tOp rNeX (tVar 0) (tC (.str (S []))))))
theorem pure_is_stand (T : Txt K w mg N) (vs : List V) (H : Hp) (Q : VK) (E : XK) (h : sp_is_stand K N vs H Q E) : t_is_stand K N (Eo Q) (start nm_is_stand vs) H := by
  obtain ⟨a, b, rfl, hl, hne, hb, q⟩ := h
  refine ⟨_, rfl, _, rfl, a, b, rfl, hl, fun H' k => ⟨_, rfl, ?_⟩⟩
  have e : (a.all fun c => decide (c ∈ b)) = true := List.all_eq_true.mpr fun c hc => decide_eq_true (hb c hc)
  rw [e]
  refine ⟨_, rfl, a, [], rfl, rfl, ?_⟩
  rw [decide_eq_false hne]
  exact q _ k
theorem ok_is_stand (T : Txt K w mg N) : FnR Pw w K mg base CX0 5 N.is_stand (sp_is_stand K N) := by
  obtain ⟨fd, F, b⟩ := T.d_is_stand
  exact mk_fn F b sc_is_stand (fun vs H Q E h => by (repeat (first | (obtain ⟨rfl, _⟩ := h; rfl) | (obtain ⟨_, h⟩ := h)))) fun cdv A outer s H vs Q E hr h => ⟨t_is_stand K N, (PSs.nox (by exact (pss_one (ps_ret (pe_and (pe_cl (ok_is_row T) (hr.mono (by decide)) rfl T.g_is_row T.k_is_row pass0 (pa_cons (pv 0) (pa_cons (pv 1) pa_nil))) (pe_one (pe_cmpR op_neX (pv 0) (pe_lit (l := []) (by decide +kernel)) (nomark _)))))))), pure_is_stand T vs H Q E h⟩
def sp_is_table (K : PySem.W.Frag) (N : Nm) : Sp := fun vs H Q _ => ∃ a : List Nat, vs = [.str (S a)] ∧ OkTab a ∧ ∀ H', Kp N [] H H' → Q (.bl true) H'
def t_is_table (K : PySem.W.Frag) (N : Nm) : TS :=
 (tRet (tAndV (tCl (sp_is_row K N) E0 (tCons (tVar 0) (tCons (tC (.str (S [48, 49]))) tNil))) (tOp rEqI (tCB rLenX (tCons (tVar 0) tNil)) (tC (.int 4)))))
theorem pure_is_table (T : Txt K w mg N) (vs : List V) (H : Hp) (Q : VK) (E : XK) (h : sp_is_table K N vs H Q E) : t_is_table K N (Eo Q) (start nm_is_table vs) H := by
  obtain ⟨a, rfl, hb, q⟩ := h
  refine ⟨_, rfl, a, [48, 49], rfl, by rw [hb.1]; decide, fun H' k => ⟨_, rfl, ?_⟩⟩
  have e : (a.all fun c => decide (c ∈ [48, 49])) = true := List.all_eq_true.mpr fun c hc => decide_eq_true (by rcases hb.2 c hc with z | z <;> simp [z])
  rw [e]
  refine ⟨_, rfl, a, rfl, by rw [hb.1]; decide, _, _, rfl, rfl, ?_⟩
  rw [hb.1]
  exact q _ k
theorem ok_is_table (T : Txt K w mg N) : FnR Pw w K mg base CX0 5 N.is_table (sp_is_table K N) := by
  obtain ⟨fd, F, b⟩ := T.d_is_table
  exact mk_fn F b sc_is_table (fun vs H Q E h => by (repeat (first | (obtain ⟨rfl, _⟩ := h; rfl) | (obtain ⟨_, h⟩ := h)))) fun cdv A outer s H vs Q E hr h => ⟨t_is_table K N, (PSs.nox (by exact (pss_one (ps_ret (pe_and (pe_cl (ok_is_row T) (hr.mono (by decide)) rfl T.g_is_row T.k_is_row pass0 (pa_cons (pv 0) (pa_cons (pe_lit (l := [48, 49]) (by decide +kernel)) pa_nil))) (pe_one (pe_cmpR op_eqI (pe_callB call_lenX rfl T.n_len bt_len (pa_cons (pv 0) pa_nil)) pe_int (nomark _)))))))), pure_is_table T vs H Q E h⟩
/-! ## rules -/
def sp_sign_after (K : PySem.W.Frag) (N : Nm) : Sp := fun vs H Q _ => ∃ (tab : List Nat) (r l c q : Nat), vs = [.str (S tab), .str (S [49 + r]), .str (S [l]), .str (S [c]), .str (S [q])] ∧ OkTab tab ∧ r ≤ 2 ∧ (48 ≤ c ∧ c ≤ 49 + r) ∧ Q (.str (S [cell tab r l c q])) H
def t_sign_after (K : PySem.W.Frag) (N : Nm) : TS :=
 (tSeq (tIfS (tTest (tOp rEqX (tVar 3) (tC (.str (S [48])))))
 (tRet (tOp rIxX (tVar 0) (tOp rAddI (tOp rMulI (tC (.int 2)) (tCB rIntB (tCons (tOp rEqX (tVar 2) (tC (.str (S [49])))) tNil))) (tCB rIntB (tCons (tOp rEqX (tVar 4) (tC (.str (S [49])))) tNil))))) tNext)
 (tRet (tIf (tTest (tOp rEqX (tVar 3) (tVar 1))) (tC (.str (S [48]))) (tOp rIxX (tC (.str (S [48, 49, 50, 51]))) (tOp rAddI (tCB rDig (tCons (tVar 3) tNil)) (tC (.int 1)))))))
theorem one_iff {a b : Nat} : decide ([a] = [b]) = decide (a = b) := by simp
theorem b2n (b : Bool) : (if b = true then (1 : Int) else 0) = ((if b = true then 1 else 0 : Nat) : Int) := by cases b <;> rfl
theorem pure_sign_after (T : Txt K w mg N) (vs : List V) (H : Hp) (Q : VK) (E : XK) (h : sp_sign_after K N vs H Q E) : t_sign_after K N (Eo Q) (start nm_sign_after vs) H := by
  obtain ⟨tab, r, l, c, q, rfl, ht, hr, hc, k⟩ := h
  refine ⟨_, rfl, [c], [48], rfl, rfl, _, rfl, ?_⟩
  rw [one_iff]
  by_cases e : c = 48
  · rw [decide_eq_true e]
    refine ⟨_, rfl, _, rfl, [l], [49], rfl, rfl, _, rfl, 2, _, rfl, rfl, .inl (by decide), _, rfl, [q], [49], rfl, rfl, _, rfl, _, _, rfl, rfl, tab, _, tab.getD (2 * (if l = 49 then 1 else 0) + (if q = 49 then 1 else 0)) 0, rfl, rfl, by rw [ht.1]; decide, ?_, ?_⟩
    · have hl : tab.length = 4 := ht.1
      rw [one_iff, one_iff, b2n, b2n]
      by_cases e1 : l = 49 <;> by_cases e2 : q = 49 <;> simp only [e1, e2, decide_true, decide_false, if_true, if_false, Bool.false_eq_true] <;> refine (atI_getD (by decide) (by rw [hl]; decide)).trans rfl
    · have : cell tab r l c q = tab.getD (2 * (if l = 49 then 1 else 0) + (if q = 49 then 1 else 0)) 0 := if_pos e
      rw [this] at k
      exact k
  · rw [decide_eq_false e]
    refine ⟨_, rfl, _, rfl, [c], [49 + r], rfl, rfl, _, rfl, ?_⟩
    rw [one_iff]
    by_cases e2 : c = 49 + r
    · rw [decide_eq_true e2]
      have : cell tab r l c q = 48 := by unfold cell; rw [if_neg e, if_pos e2]
      rw [this] at k
      exact k
    · rw [decide_eq_false e2]
      have : cell tab r l c q = c + 1 := by unfold cell; rw [if_neg e, if_neg e2]
      rw [this] at k
      refine ⟨_, rfl, c, rfl, hc.1, by omega, _, _, rfl, rfl, [48, 49, 50, 51], _, c + 1, rfl, rfl, by decide, ?_, k⟩
      have : c = 49 ∨ c = 50 := by omega
      rcases this with rfl | rfl <;> rfl
theorem ok_sign_after (T : Txt K w mg N) : FnR Pw w K mg base CX0 4 N.sign_after (sp_sign_after K N) := by
  obtain ⟨fd, F, b⟩ := T.d_sign_after
  exact mk_fn F b sc_sign_after (fun vs H Q E h => by (repeat (first | (obtain ⟨rfl, _⟩ := h; rfl) | (obtain ⟨_, h⟩ := h)))) fun cdv A outer s H vs Q E hr h => ⟨t_sign_after K N, (PSs.nox (by exact (pss_cons (ps_if (pt_cmpR op_eqX (pv 3) (pe_lit (l := [48]) (by decide +kernel)) (nomark _)) (pss_one (ps_ret (pe_ix ix_x (pv 0) (pe_op op_add (pe_op op_mul pe_int (pe_callTy call_intB rfl T.n_int bt_int (pa_cons (pe_cmpR op_eqX (pv 2) (pe_lit (l := [49]) (by decide +kernel)) (nomark _)) pa_nil))) (pe_callTy call_intB rfl T.n_int bt_int (pa_cons (pe_cmpR op_eqX (pv 4) (pe_lit (l := [49]) (by decide +kernel)) (nomark _)) pa_nil))) (fun _ _ => rfl)))) pss_nil)
 (pss_one (ps_ret (pe_ifExp (pt_cmpR op_eqX (pv 3) (pv 1) (nomark _)) (pe_lit (l := [48]) (by decide +kernel)) (pe_ix ix_x (pe_gs rfl T.g_SIGNS) (pe_op op_add (pe_callTy call_dig rfl T.n_int bt_int (pa_cons (pv 3) pa_nil)) pe_int) (fun _ _ => rfl)))))))), pure_sign_after T vs H Q E h⟩
end
end Sw
namespace Sw
open PySem PySem.Spec PyProof.Rows L2
open SX (S S_cat S_len S_inj)
open SlX (SlO SlR putS slH)
section
variable {K : PySem.W.Frag} {w : World} {mg : Str → Option Value} {N : Nm} {base : Heap}
def rowBeat (tab : List Nat) (r : Nat) (row : List Nat) : List Nat := (List.range (row.length - 2)).map fun i => cell tab r (row.getD i 0) (row.getD (i + 1) 0) (row.getD (i + 2) 0)
def sp_row_after_beat (K : PySem.W.Frag) (N : Nm) : Sp := fun vs H Q _ => ∃ (tab : List Nat) (r : Nat) (row : List Nat), vs = [.str (S tab), .str (S [49 + r]), .str (S row)] ∧ OkTab tab ∧ r ≤ 2 ∧ 2 ≤ row.length ∧ row.length ≤ 1000 ∧ OkT r row ∧
  ∀ H', Kp N [] H H' → Q (.str (S (rowBeat tab r row))) H'
def t_row_after_beat (K : PySem.W.Frag) (N : Nm) : TS :=
 (tRet (tM1 (rJoinX K) (tC (.str (S []))) (tLc (iRng1 (tCons (tOp rSubI (tCB rLenX (tCons (tVar 2) tNil)) (tC (.int 2))) tNil)) (gName 3) tYes (tCl (sp_sign_after K N) E0 (tCons (tVar 0) (tCons (tVar 1) (tCons (tOp rIxX (tVar 2) (tVar 3)) (tCons (tOp rIxX (tVar 2) (tOp rAddI (tVar 3) (tC (.int 1)))) (tCons (tOp rIxX (tVar 2) (tOp rAddI (tVar 3) (tC (.int 2)))) tNil)))))) [3])))
theorem pure_row_after_beat (T : Txt K w mg N) (vs : List V) (H : Hp) (Q : VK) (E : XK) (h : sp_row_after_beat K N vs H Q E) : t_row_after_beat K N (Eo Q) (start nm_row_after_beat vs) H := by
  obtain ⟨tab, r, row, rfl, ht, hr, h2, h3, ok, q⟩ := h
  have e2 : ((row.length : Int) - 2).toNat = row.length - 2 := by omega
  refine ⟨⟨_, rfl⟩, _, rfl, row, rfl, by omega, _, _, rfl, rfl, _, rfl, by omega, by omega, fun D hD => ?_⟩
  rw [e2]
  refine lc_acc walk_range (fun i acc H' => acc = ((List.range i).map fun i => V.str (S [cell tab r (row.getD i 0) (row.getD (i + 1) 0) (row.getD (i + 2) 0)])) ∧ Kp N [] H H') (by omega) ⟨rfl, Kp.refl.new hD⟩ (fun i acc H' r => by rw [r.1]; simp) (fun _ _ _ _ _ _ => trivial) ?_ ?_
  · rintro i x acc H1 H' hi e z ⟨rfl, k⟩ ⟨rfl, rfl⟩
    refine ⟨rfl, _, rfl, _, rfl, _, rfl, _, rfl, row, _, _, rfl, rfl, by omega, atI_getD (by omega) (by omega), _, rfl, _, rfl, _, _, rfl, rfl, row, _, _, rfl, rfl, by omega, atI_getD (by omega) (by omega), _, rfl, _, rfl, _, _, rfl, rfl, row, _, _, rfl, rfl, by omega, atI_getD (by omega) (by omega), ?_⟩
    refine ⟨tab, r, _, _, _, rfl, ht, hr, ok _ (getD_mem (by omega)), LcN.add e z ⟨?_, k.put hD⟩⟩
    rw [range_snoc]
    have a0 : ((0 : Int) + i).toNat = i := by omega
    have a1 : ((0 : Int) + i + 1).toNat = i + 1 := by omega
    have a2 : ((0 : Int) + i + 2).toNat = i + 2 := by omega
    rw [a0, a1, a2]
  · rintro acc H1 e ⟨rfl, k⟩
    refine ⟨D, (List.range (row.length - 2)).map fun i => [cell tab r (row.getD i 0) (row.getD (i + 1) 0) (row.getD (i + 2) 0)], rfl, rfl, .inl (.inl ?_), ?_, ?_⟩
    · rw [e, List.map_map]; rfl
    · rw [sum_one]; omega
    · rw [flat_map]
      exact q _ k
theorem ok_row_after_beat (T : Txt K w mg N) : FnR Pw w K mg base CX0 5 N.row_after_beat (sp_row_after_beat K N) := by
  obtain ⟨fd, F, b⟩ := T.d_row_after_beat
  exact mk_fn F b sc_row_after_beat (fun vs H Q E h => by (repeat (first | (obtain ⟨rfl, _⟩ := h; rfl) | (obtain ⟨_, h⟩ := h)))) fun cdv A outer s H vs Q E hr h => ⟨t_row_after_beat K N, (PSs.nox (by exact (pss_one (ps_ret (pe_joinX (pe_lit (l := []) (by decide +kernel)) (pe_lc (own := [(("at" : Str), 3)]) (g := (gName 3)) (tt := tYes) rfl sc_row_after_beat.nd (pi_range1 rfl T.n_range (pa_cons (pe_op op_sub (pe_callB call_lenX rfl T.n_len bt_len (pa_cons (pv 2) pa_nil)) pe_int) pa_nil)) (blkOk_by (N := nm_row_after_beat) (sc := defScope s_row_after_beat) (by decide +kernel)) (fun _ _ _ _ _ => (pg_name (i := 3) sc_row_after_beat.nd rfl (Or.inl rfl))) (fun _ _ _ _ _ => pts_nil) (fun _ _ _ _ _ => (pe_cl (ok_sign_after T) (hr.mono (by decide)) rfl T.g_sign_after T.k_sign_after pass0 (pa_cons (pv 0) (pa_cons (pv 1) (pa_cons (pe_ix ix_x (pv 2) (pv 3) (fun _ _ => rfl)) (pa_cons (pe_ix ix_x (pv 2) (pe_op op_add (pv 3) pe_int) (fun _ _ => rfl)) (pa_cons (pe_ix ix_x (pv 2) (pe_op op_add (pv 3) pe_int) (fun _ _ => rfl)) pa_nil))))))))))))), pure_row_after_beat T vs H Q E h⟩
/-! ## Rule -/
def sp_Rule_table (K : PySem.W.Frag) (N : Nm) : Sp := fun vs H Q _ => ∃ (a : Addr) (tab : List Nat) (r : Nat), vs = [.ref a] ∧ RuleAt N H a tab r ∧ Q (.str (S tab)) H
def sp_Rule_rests (K : PySem.W.Frag) (N : Nm) : Sp := fun vs H Q _ => ∃ (a : Addr) (tab : List Nat) (r : Nat), vs = [.ref a] ∧ RuleAt N H a tab r ∧ Q (.int r) H
def sgn (r : Nat) : List Nat := [48, 49, 50, 51].take (2 + r)
def sp_Rule_signs (K : PySem.W.Frag) (N : Nm) : Sp := fun vs H Q _ => ∃ (a : Addr) (tab : List Nat) (r : Nat), vs = [.ref a] ∧ RuleAt N H a tab r ∧ Q (.str (S (sgn r))) H
def t_Rule_table (K : PySem.W.Frag) (N : Nm) : TS :=
 (tRet (SlX.tSl K (tVar 0) "its_table"))
theorem pure_Rule_table (T : Txt K w mg N) (vs : List V) (H : Hp) (Q : VK) (E : XK) (h : sp_Rule_table K N vs H Q E) : t_Rule_table K N (Eo Q) (start nm_Rule_table vs) H := by
  obtain ⟨a, tab, r, rfl, ⟨dr, e⟩, q⟩ := h
  obtain ⟨p, sl⟩ := T.s_Rule_its_table
  exact ⟨_, rfl, a, _, _, p, _, 1, _, rfl, e.slt, T.c_Rule, sl, rfl, q⟩
theorem ok_Rule_table (T : Txt K w mg N) : FnR Pw w K mg base CX0 4 N.Rule_table (sp_Rule_table K N) := by
  obtain ⟨fd, F, b⟩ := T.d_Rule_table
  exact mk_fn F b sc_Rule_table (fun vs H Q E h => by (repeat (first | (obtain ⟨rfl, _⟩ := h; rfl) | (obtain ⟨_, h⟩ := h)))) fun cdv A outer s H vs Q E hr h => ⟨t_Rule_table K N, (PSs.nox (by exact (pss_one (ps_ret (SlX.pe_sl (pv 0)))))), pure_Rule_table T vs H Q E h⟩
def t_Rule_rests (K : PySem.W.Frag) (N : Nm) : TS :=
 (tRet (SlX.tSl K (tVar 0) "its_rests"))
theorem pure_Rule_rests (T : Txt K w mg N) (vs : List V) (H : Hp) (Q : VK) (E : XK) (h : sp_Rule_rests K N vs H Q E) : t_Rule_rests K N (Eo Q) (start nm_Rule_rests vs) H := by
  obtain ⟨a, tab, r, rfl, ⟨dr, e⟩, q⟩ := h
  obtain ⟨p, sl⟩ := T.s_Rule_its_rests
  exact ⟨_, rfl, a, _, _, p, _, 0, _, rfl, e.slt, T.c_Rule, sl, rfl, q⟩
theorem ok_Rule_rests (T : Txt K w mg N) : FnR Pw w K mg base CX0 4 N.Rule_rests (sp_Rule_rests K N) := by
  obtain ⟨fd, F, b⟩ := T.d_Rule_rests
  exact mk_fn F b sc_Rule_rests (fun vs H Q E h => by (repeat (first | (obtain ⟨rfl, _⟩ := h; rfl) | (obtain ⟨_, h⟩ := h)))) fun cdv A outer s H vs Q E hr h => ⟨t_Rule_rests K N, (PSs.nox (by exact (pss_one (ps_ret (SlX.pe_sl (pv 0)))))), pure_Rule_rests T vs H Q E h⟩
def t_Rule_signs (K : PySem.W.Frag) (N : Nm) : TS :=
 (tRet (L2.tSl rSlX (tC (.str (S [48, 49, 50, 51]))) tNoPart (tPart (tOp rAddI (tC (.int 2)) (SlX.tSl K (tVar 0) "its_rests")))))
theorem pure_Rule_signs (T : Txt K w mg N) (vs : List V) (H : Hp) (Q : VK) (E : XK) (h : sp_Rule_signs K N vs H Q E) : t_Rule_signs K N (Eo Q) (start nm_Rule_signs vs) H := by
  obtain ⟨a, tab, r, rfl, ⟨dr, e⟩, q⟩ := h
  obtain ⟨p, sl⟩ := T.s_Rule_its_rests
  refine ⟨_, rfl, a, _, _, p, _, 0, _, rfl, e.slt, T.c_Rule, sl, rfl, _, _, rfl, rfl, _, rfl, [48, 49, 50, 51], rfl, by decide, ?_⟩
  rw [cutL_to _ (by omega)]
  have : ((2 : Int) + r).toNat = 2 + r := by omega
  rw [this]
  exact q
theorem ok_Rule_signs (T : Txt K w mg N) : FnR Pw w K mg base CX0 4 N.Rule_signs (sp_Rule_signs K N) := by
  obtain ⟨fd, F, b⟩ := T.d_Rule_signs
  exact mk_fn F b sc_Rule_signs (fun vs H Q E h => by (repeat (first | (obtain ⟨rfl, _⟩ := h; rfl) | (obtain ⟨_, h⟩ := h)))) fun cdv A outer s H vs Q E hr h => ⟨t_Rule_signs K N, (PSs.nox (by exact (pss_one (ps_ret (pe_slice sl_x (pe_gs rfl T.g_SIGNS) po_none (po_some (pe_op op_add pe_int (SlX.pe_sl (pv 0))))))))), pure_Rule_signs T vs H Q E h⟩
theorem sgn_last {r : Nat} (h : r ≤ 2) : atI (sgn r) (-1) = some (49 + r) := by
  have : r = 0 ∨ r = 1 ∨ r = 2 := by omega
  rcases this with rfl | rfl | rfl <;> rfl
theorem sgn_len (r : Nat) : (sgn r).length ≤ 4 := by
  unfold sgn
  rw [List.length_take]
  exact Nat.min_le_right _ _
theorem mem_sgn {r c : Nat} (h : r ≤ 2) : c ∈ sgn r ↔ 48 ≤ c ∧ c ≤ 49 + r := by
  have : r = 0 ∨ r = 1 ∨ r = 2 := by omega
  rcases this with rfl | rfl | rfl <;> simp [sgn] <;> omega
/-- the row that ring_after lays -/
def ringRow (t : List Nat) : List Nat := [t.getD (t.length - 1) 0] ++ t ++ [t.getD 0 0]
theorem ringRow_len (t : List Nat) : (ringRow t).length = t.length + 2 := by simp [ringRow]
theorem ringRow_get {t : List Nat} (h : t ≠ []) {i : Nat} (hi : i < t.length + 2) : (ringRow t).getD i 0 = at' t ((i : Int) - 1) := by
  have hl := List.length_pos_iff.mpr h
  unfold at'
  rcases Nat.eq_zero_or_pos i with rfl | hp
  · have : (((0 : Nat) : Int) - 1) % (t.length : Int) = t.length - 1 := by
      rw [Int.emod_def]
      have : (((0 : Nat) : Int) - 1) / (t.length : Int) = -1 := by
        rw [Int.ediv_eq_iff_of_pos (by omega)] <;> omega
      rw [this]; omega
    rw [this]
    have e : ((t.length : Int) - 1).toNat = t.length - 1 := by omega
    rw [e]
    rfl
  · by_cases c : i - 1 < t.length
    · have : ((i : Int) - 1) % (t.length : Int) = i - 1 := Int.emod_eq_of_lt (by omega) (by omega)
      rw [this]
      have e : ((i : Int) - 1).toNat = i - 1 := by omega
      rw [e]
      unfold ringRow
      obtain ⟨j, rfl⟩ : ∃ j, i = j + 1 := ⟨i - 1, by omega⟩
      rw [List.getD_eq_getElem?_getD, List.getD_eq_getElem?_getD, List.append_assoc, List.singleton_append, List.getElem?_cons_succ, List.getElem?_append_left (by omega)]
      rfl
    · have hi2 : i = t.length + 1 := by omega
      subst hi2
      have : (((t.length + 1 : Nat) : Int) - 1) % (t.length : Int) = 0 := by
        rw [show ((t.length + 1 : Nat) : Int) - 1 = t.length by omega]
        exact Int.emod_self
      rw [this]
      unfold ringRow
      rw [List.getD_eq_getElem?_getD, List.append_assoc, List.singleton_append, List.getElem?_cons_succ, List.getElem?_append_right (by omega)]
      simp
theorem rowBeat_ring {tab : List Nat} {r : Nat} {t : List Nat} (h : t ≠ []) : rowBeat tab r (ringRow t) = beat tab r t := by
  unfold rowBeat beat
  rw [ringRow_len]
  refine List.map_congr_left fun i hi => ?_
  have hi' : i < t.length := by simpa using hi
  rw [ringRow_get h (by omega), ringRow_get h (by omega), ringRow_get h (by omega)]
  have e1 : ((i + 1 : Nat) : Int) - 1 = i := by omega
  have e2 : ((i + 2 : Nat) : Int) - 1 = i + 1 := by omega
  rw [e1, e2]
theorem ringRow_ok {r : Nat} {t : List Nat} (h : t ≠ []) (ok : OkT r t) : OkT r (ringRow t) := by
  have hl := List.length_pos_iff.mpr h
  intro c hc
  rcases List.mem_append.mp hc with hc | hc
  · rcases List.mem_append.mp hc with hc | hc
    · rw [List.mem_singleton.mp hc]; exact ok _ (getD_mem (by omega))
    · exact ok _ hc
  · rw [List.mem_singleton.mp hc]; exact ok _ (getD_mem hl)
def sp_Rule_ring_after (K : PySem.W.Frag) (N : Nm) : Sp := fun vs H Q _ => ∃ (a : Addr) (tab : List Nat) (r : Nat) (t : List Nat), vs = [.ref a, .str (S t)] ∧ RuleAt N H a tab r ∧ OkTab tab ∧ r ≤ 2 ∧ t ≠ [] ∧ t.length ≤ 900 ∧ OkT r t ∧ ∀ H', Kp N [] H H' → Q (.str (S (beat tab r t))) H'
def t_Rule_ring_after (K : PySem.W.Frag) (N : Nm) : TS :=
 (tRet (tCl (sp_row_after_beat K N) E0 (tCons (SlX.tSl K (tVar 0) "its_table") (tCons (tOp rIxX (SlX.tPropSl N.Rule (sp_Rule_signs K N) E0 (tVar 0)) (tUn (rU fun i => .int (-i)) (tC (.int 1)))) (tCons (tOp rCatX (tOp rCatX (tOp rIxX (tVar 1) (tUn (rU fun i => .int (-i)) (tC (.int 1)))) (tVar 1)) (tOp rIxX (tVar 1) (tC (.int 0)))) tNil)))))
theorem pure_Rule_ring_after (T : Txt K w mg N) (vs : List V) (H : Hp) (Q : VK) (E : XK) (h : sp_Rule_ring_after K N vs H Q E) : t_Rule_ring_after K N (Eo Q) (start nm_Rule_ring_after vs) H := by
  obtain ⟨a, tab, r, t, rfl, ra, ht, hr, hne, hl, ok, q⟩ := h
  obtain ⟨dr, e⟩ := id ra
  obtain ⟨p, sl⟩ := T.s_Rule_its_table
  have hp := List.length_pos_iff.mpr hne
  refine ⟨_, rfl, a, _, _, p, _, 1, _, rfl, e.slt, T.c_Rule, sl, rfl, ?_⟩
  refine ⟨_, rfl, a, dr, _, rfl, e.slt, a, tab, r, rfl, ra, 1, rfl, sgn r, _, _, rfl, rfl, Nat.le_trans (sgn_len r) (by decide), sgn_last hr, ?_⟩
  refine ⟨_, rfl, 1, rfl, t, _, _, rfl, rfl, by omega, atI_m1 hne, _, rfl, _, t, rfl, rfl, by simp; omega, _, rfl, t, _, _, rfl, rfl, by omega, atI_getD (by omega) (by omega), _, _, rfl, rfl, by simp; omega, ?_⟩
  refine ⟨tab, r, ringRow t, rfl, ht, hr, by rw [ringRow_len]; omega, by rw [ringRow_len]; omega, ringRow_ok hne ok, fun H' k => ?_⟩
  rw [rowBeat_ring hne]
  exact q _ k
theorem ok_Rule_ring_after (T : Txt K w mg N) : FnR Pw w K mg base CX0 6 N.Rule_ring_after (sp_Rule_ring_after K N) := by
  obtain ⟨fd, F, b⟩ := T.d_Rule_ring_after
  exact mk_fn F b sc_Rule_ring_after (fun vs H Q E h => by (repeat (first | (obtain ⟨rfl, _⟩ := h; rfl) | (obtain ⟨_, h⟩ := h)))) fun cdv A outer s H vs Q E hr h => ⟨t_Rule_ring_after K N, (PSs.nox (by exact (pss_one (ps_ret (pe_cl (ok_row_after_beat T) (hr.mono (by decide)) rfl T.g_row_after_beat T.k_row_after_beat pass0 (pa_cons (SlX.pe_sl (pv 0)) (pa_cons (pe_ix ix_x (SlX.pe_propSl (pv 0) T.c_Rule T.p_Rule_signs.at_ T.p_Rule_signs.get T.p_Rule_signs.tak T.p_Rule_signs.rec_ (ok_Rule_signs T) (hr.mono (by decide)) (fun _ _ _ _ z => z)) (pe_un un_neg pe_int) (fun _ _ => rfl)) (pa_cons (pe_op op_catX (pe_op op_catX (pe_ix ix_x (pv 1) (pe_un un_neg pe_int) (fun _ _ => rfl)) (pv 1)) (pe_ix ix_x (pv 1) pe_int (fun _ _ => rfl))) pa_nil)))))))), pure_Rule_ring_after T vs H Q E h⟩
def sp_Rule_eq (K : PySem.W.Frag) (N : Nm) : Sp := fun vs H Q _ => ∃ (a b : Addr) (tab : List Nat) (r : Nat), vs = [.ref a, .ref b] ∧ RuleAt N H a tab r ∧ RuleAt N H b tab r ∧ Q (.bl true) H
def t_Rule_eq (K : PySem.W.Frag) (N : Nm) : TS :=
 (tRet (tAndV (tCB (SlX.rIsiSl K (.ref N.Rule)) (tCons (tVar 1) (tCons (tC (.ref N.Rule)) tNil))) (tAndV (tOp rEqX (SlX.tSl K (tVar 0) "its_table") (SlX.tSl K (tVar 1) "its_table")) (tOp rEqI (SlX.tSl K (tVar 0) "its_rests") (SlX.tSl K (tVar 1) "its_rests")))))
theorem pure_Rule_eq (T : Txt K w mg N) (vs : List V) (H : Hp) (Q : VK) (E : XK) (h : sp_Rule_eq K N vs H Q E) : t_Rule_eq K N (Eo Q) (start nm_Rule_eq vs) H := by
  obtain ⟨a, b, tab, r, rfl, ⟨da, ea⟩, ⟨db, eb⟩, q⟩ := h
  obtain ⟨p, sl⟩ := T.s_Rule_its_table
  obtain ⟨p2, sl2⟩ := T.s_Rule_its_rests
  refine ⟨_, rfl, b, N.Rule, db, _, _, true, rfl, rfl, fun w r => r, eb.slt, T.c_Rule, T.si_Rule, T.kit_Rule, _, rfl, iteT ?_⟩
  refine ⟨_, rfl, a, _, _, p, _, 1, _, rfl, ea.slt, T.c_Rule, sl, rfl, _, rfl, b, _, _, p, _, 1, _, rfl, eb.slt, T.c_Rule, sl, rfl, tab, tab, rfl, rfl, _, rfl, ?_⟩
  rw [decide_eq_true rfl]
  refine iteT ⟨_, rfl, a, _, _, p2, _, 0, _, rfl, ea.slt, T.c_Rule, sl2, rfl, _, rfl, b, _, _, p2, _, 0, _, rfl, eb.slt, T.c_Rule, sl2, rfl, _, _, rfl, rfl, ?_⟩
  show Q (.bl (decide ((r : Int) = (r : Int)))) H
  rw [dec_rfl]
  exact q
theorem ok_Rule_eq (T : Txt K w mg N) : FnR Pw w K mg base CX0 4 N.Rule_eq (sp_Rule_eq K N) := by
  obtain ⟨fd, F, b⟩ := T.d_Rule_eq
  exact mk_fn F b sc_Rule_eq (fun vs H Q E h => by (repeat (first | (obtain ⟨rfl, _⟩ := h; rfl) | (obtain ⟨_, h⟩ := h)))) fun cdv A outer s H vs Q E hr h => ⟨t_Rule_eq K N, (PSs.nox (by exact (pss_one (ps_ret (pe_and (pe_callB (SlX.call_isiSl (.ref N.Rule)) rfl T.n_isinstance bt_isinstance (pa_cons (pv 1) (pa_cons (pe_glob rfl T.g_Rule rfl) pa_nil))) (pe_and (pe_cmpR op_eqX (SlX.pe_sl (pv 0)) (SlX.pe_sl (pv 1)) (nomark _)) (pe_one (pe_cmpR op_eqI (SlX.pe_sl (pv 0)) (SlX.pe_sl (pv 1)) (nomark _))))))))), pure_Rule_eq T vs H Q E h⟩
end
end Sw
namespace Sw
open PySem PySem.Spec PyProof.Rows L2
open SX (S S_cat S_len S_inj)
open SlX (SlO SlR putS slH)
section
variable {K : PySem.W.Frag} {w : World} {mg : Str → Option Value} {N : Nm} {base : Heap}
/-- a new instance: no slot stored -/
structure NewA (H : Hp) (x C dx : Addr) : Prop where
  at_ : H x = some (.ins C dx [])
  dx : H dx = some (.own x)
theorem NewA.ne {H : Hp} {x C dx : Addr} (h : NewA H x C dx) : dx ≠ x := fun z => by
  subst z
  have := h.at_.symm.trans h.dx
  cases this
theorem NewA.slt {H : Hp} {x C dx : Addr} (h : NewA H x C dx) : SlX.Slt H x C dx [] := .inl ⟨h.at_, rfl⟩
theorem NewA.keep {l : List Addr} {H H' : Hp} {x C dx : Addr} (h : NewA H x C dx) (k : Kp N l H H') (h1 : x ∉ l) (h2 : dx ∉ l) : NewA H' x C dx := ⟨k _ _ h.at_ (.inl h1), k _ _ h.dx (.inl h2)⟩
theorem newA_made {H : Hp} {x C dx : Addr} (h : dx ≠ x) : NewA (upd (upd H dx (.own x)) x (.ins C dx [])) x C dx := ⟨upd_same, by rw [upd_ne h]; exact upd_same⟩
theorem Kp.made {l : List Addr} {H H1 : Hp} {x C dx : Addr} (a : Kp N l H H1) (h1 : H1 x = none) (h2 : H1 dx = none) (h : dx ≠ x) : Kp N l H (upd (upd H1 dx (.own x)) x (.ins C dx [])) := (a.new h2).new (by rw [upd_ne (Ne.symm h)]; exact h1)
/-- the first slot of a new instance -/
theorem Kp.sl0 {l : List Addr} {H H1 : Hp} {x C dx : Addr} {vs : List (Option V)} (a : Kp N l H H1) (n : NewA H1 x C dx) (h1 : x ∈ l ∨ H x = none) (h2 : dx ∈ l ∨ H dx = none) : Kp N l H (slH H1 x C dx vs) :=
  a.sl (Ne.symm n.ne) h1 (fun u hu => by rw [n.at_] at hu; cases hu; exact not_prm_ins) (.inr ⟨h2, x, n.dx⟩)
/-- a further one -/
theorem Kp.slA {l : List Addr} {H H1 : Hp} {x C dx : Addr} {us vs : List (Option V)} (a : Kp N l H H1) (n : SlA H1 x C dx us) (np : ¬ Prm N (SlO x C dx us)) (h1 : x ∈ l ∨ H x = none) : Kp N l H (slH H1 x C dx vs) :=
  a.sl n.ne h1 (fun u hu => by rw [n.at_] at hu; cases hu; exact np) (.inl n.dx)
def sp_Rule_init (K : PySem.W.Frag) (N : Nm) : Sp := fun vs H Q _ => ∃ (x dx : Addr) (tab : List Nat) (r : Nat), vs = [.ref x, .str (S tab), .int r] ∧ OkTab tab ∧ r ≤ 2 ∧ NewA H x N.Rule dx ∧
  ∀ H', SlA H' x N.Rule dx [some (.int r), some (.str (S tab))] → Kp N [x, dx] H H' → Q .non H'
def t_Rule_init (K : PySem.W.Frag) (N : Nm) : TS :=
 (tSeq (tIfS (tNot (tB (tCl (sp_is_table K N) E0 (tCons (tVar 1) tNil))))
 tNever tNext)
 (tSeq (tIfS (tOr (tNot (tB (tCl (sp_is_integer K N) E0 (tCons (tVar 2) tNil)))) (tNot (tTest (tChain rLeI rLeI (tC (.int 0)) (tVar 2) (tC (.int 2))))))
 tNever tNext)
 (tAsg (tTup (tCons (tVar 1) (tCons (tVar 2) tNil))) (gTup K 2 (gCons (gSl K (tVar 0) "its_table") (gCons (gSl K (tVar 0) "its_rests") gNil))))))
theorem pure_Rule_init (T : Txt K w mg N) (vs : List V) (H : Hp) (Q : VK) (E : XK) (h : sp_Rule_init K N vs H Q E) : t_Rule_init K N (Eo Q) (start nm_Rule_init vs) H := by
  obtain ⟨x, dx, tab, r, rfl, ht, hr, new, q⟩ := h
  obtain ⟨p1, s1⟩ := T.s_Rule_its_table
  obtain ⟨p2, s2⟩ := T.s_Rule_its_rests
  refine ⟨_, rfl, tab, rfl, ht, fun H1 k1 => ⟨_, rfl, ?_⟩⟩
  refine ⟨_, rfl, _, rfl, _, rfl, ?_⟩
  refine ⟨_, rfl, 0, (r : Int), rfl, rfl, _, rfl, ?_⟩
  rw [decide_eq_true (Int.natCast_nonneg r)]
  refine ⟨_, 2, rfl, rfl, _, rfl, ?_⟩
  rw [decide_eq_true (show (r : Int) ≤ 2 by omega)]
  refine ⟨_, rfl, _, rfl, by show 2 ≤ sizeLine; decide, fun p hp => ?_⟩
  have n1 := (new.keep k1 (by simp) (by simp)).keep (N := N) (l := []) (Kp.refl.new (p := p) (o := .tup [.str (S tab), .int r]) hp) (by simp) (by simp)
  have k2 : Kp N [x, dx] H (upd H1 p (.tup [.str (S tab), .int r])) := (k1.new hp).up
  refine ⟨p, _, rfl, .of upd_same, rfl, _, _, rfl, _, rfl, x, _, dx, p1, _, 1, rfl, n1.slt, T.c_Rule, s1, ?_⟩
  have a1 : SlA (slH (upd H1 p (.tup [.str (S tab), .int r])) x N.Rule dx [none, some (.str (S tab))]) x N.Rule dx [none, some (.str (S tab))] := slA_put n1.ne
  have k3 : Kp N [x, dx] H (slH (upd H1 p (.tup [.str (S tab), .int r])) x N.Rule dx [none, some (.str (S tab))]) := k2.sl0 n1 (.inl (by simp)) (.inl (by simp))
  refine ⟨_, _, rfl, _, rfl, x, _, dx, p2, _, 0, rfl, a1.slt, T.c_Rule, s2, rfl, ?_⟩
  exact q _ (slA_put n1.ne) (k3.slA a1 not_prm_one (.inl (by simp)))
theorem ok_Rule_init (T : Txt K w mg N) : FnR Pw w K mg base CX0 6 N.Rule_init (sp_Rule_init K N) := by
  obtain ⟨fd, F, b⟩ := T.d_Rule_init
  exact mk_fn F b sc_Rule_init (fun vs H Q E h => by (repeat (first | (obtain ⟨rfl, _⟩ := h; rfl) | (obtain ⟨_, h⟩ := h)))) fun cdv A outer s H vs Q E hr h => ⟨t_Rule_init K N, (PSs.nox (by exact (pss_cons (ps_if (pt_not (pt_val (pe_cl (ok_is_table T) (hr.mono (by decide)) rfl T.g_is_table T.k_is_table pass0 (pa_cons (pv 1) pa_nil)))) pss_never pss_nil)
 (pss_cons (ps_if (PW.pt (pw_or (pt_not (pt_val (pe_cl (ok_is_integer T) (hr.mono (by decide)) rfl T.g_is_integer T.k_is_integer pass0 (pa_cons (pv 2) pa_nil)))) (pw_or1 (pt_not (pt_chain op_le op_le pe_int (pv 2) (pe_gs rfl T.g_MOST_RESTS)))))) pss_never pss_nil)
 (pss_one (ps_asg (pe_tup (pa_cons (pv 1) (pa_cons (pv 2) pa_nil))) (pg_tup rfl (pgs_cons (pg_sl (pv 0)) (pgs_cons (pg_sl (pv 0)) pgs_nil))))))))), pure_Rule_init T vs H Q E h⟩
/-! ## turned_by -/
theorem turned_cut {t : List Nat} (h : t ≠ []) (p : Int) : t.drop ((t.length : Int) - p % t.length).toNat ++ t.take ((t.length : Int) - p % t.length).toNat = turned t p := by
  have hl := List.length_pos_iff.mpr h
  have h1 := Int.emod_nonneg p (b := (t.length : Int)) (by omega)
  have h2 := Int.emod_lt_of_pos p (b := (t.length : Int)) (by omega)
  obtain ⟨a, ha⟩ : ∃ a : Nat, p % (t.length : Int) = a := ⟨(p % t.length).toNat, by omega⟩
  have e1 : ((t.length : Int) - p % t.length).toNat = t.length - a := by omega
  rw [e1]
  have key : ∀ k : Nat, k < t.length → ((k : Int) - p) % (t.length : Int) = if k < a then (k : Int) - a + t.length else (k : Int) - a := by
    intro k hk
    have e : ((k : Int) - p) % (t.length : Int) = ((k : Int) - a) % (t.length : Int) := by rw [← ha, Int.sub_emod_emod]
    rw [e]
    by_cases c : k < a
    · rw [if_pos c]
      have : ((k : Int) - a) % (t.length : Int) = ((k : Int) - a + t.length) % (t.length : Int) := (Int.add_emod_right _ _).symm
      rw [this]
      exact Int.emod_eq_of_lt (by omega) (by omega)
    · rw [if_neg c]
      exact Int.emod_eq_of_lt (by omega) (by omega)
  apply List.ext_getElem?
  intro k
  unfold turned
  rw [List.getElem?_map]
  by_cases hk : k < t.length
  · rw [List.getElem?_range hk]
    show _ = some (at' t ((k : Int) - p))
    unfold at'
    rw [key k hk]
    by_cases c : k < a
    · rw [if_pos c, List.getElem?_append_left (by rw [List.length_drop]; omega), List.getElem?_drop, List.getD_eq_getElem?_getD]
      have e : ((k : Int) - a + t.length).toNat = t.length - a + k := by omega
      rw [e, List.getElem?_eq_getElem (by omega)]
      rfl
    · rw [if_neg c, List.getElem?_append_right (by rw [List.length_drop]; omega), List.length_drop, List.getElem?_take, List.getD_eq_getElem?_getD]
      have e : ((k : Int) - a).toNat = k - a := by omega
      have e2 : k - (t.length - (t.length - a)) = k - a := by omega
      rw [e, e2, if_pos (by omega), List.getElem?_eq_getElem (by omega)]
      rfl
  · rw [List.getElem?_eq_none (by simp; omega), List.getElem?_eq_none (by simp; omega)]
    rfl
def sp_turned_by (K : PySem.W.Frag) (N : Nm) : Sp := fun vs H Q _ => ∃ (t : List Nat) (p : Int), vs = [.str (S t), .int p] ∧ t ≠ [] ∧ t.length ≤ 1000 ∧ Q (.str (S (turned t p))) H
def t_turned_by (K : PySem.W.Frag) (N : Nm) : TS :=
 (tSeq (tAsg (tOp rModI (tVar 1) (tCB rLenX (tCons (tVar 0) tNil))) (gName 2))
 (tRet (tOp rCatX (L2.tSl rSlX (tVar 0) (tPart (tOp rSubI (tCB rLenX (tCons (tVar 0) tNil)) (tVar 2))) tNoPart) (L2.tSl rSlX (tVar 0) tNoPart (tPart (tOp rSubI (tCB rLenX (tCons (tVar 0) tNil)) (tVar 2)))))))
theorem pure_turned_by (T : Txt K w mg N) (vs : List V) (H : Hp) (Q : VK) (E : XK) (h : sp_turned_by K N vs H Q E) : t_turned_by K N (Eo Q) (start nm_turned_by vs) H := by
  obtain ⟨t, p, rfl, hne, hl, q⟩ := h
  have hp := List.length_pos_iff.mpr hne
  have h1 := Int.emod_nonneg p (b := (t.length : Int)) (by omega)
  have h2 := Int.emod_lt_of_pos p (b := (t.length : Int)) (by omega)
  refine ⟨_, rfl, _, rfl, t, rfl, by omega, p, _, rfl, rfl, by omega, ?_⟩
  refine ⟨_, rfl, _, rfl, t, rfl, by omega, _, rfl, _, _, rfl, rfl, _, rfl, t, rfl, by omega, ?_⟩
  refine ⟨_, rfl, _, rfl, t, rfl, by omega, _, rfl, _, _, rfl, rfl, _, rfl, t, rfl, by omega, ?_⟩
  rw [cutL_from _ (by omega), cutL_to _ (by omega)]
  refine ⟨_, _, rfl, rfl, ?_, ?_⟩
  · rw [List.length_drop, List.length_take]; omega
  · rw [turned_cut hne]
    exact q
theorem ok_turned_by (T : Txt K w mg N) : FnR Pw w K mg base CX0 4 N.turned_by (sp_turned_by K N) := by
  obtain ⟨fd, F, b⟩ := T.d_turned_by
  exact mk_fn F b sc_turned_by (fun vs H Q E h => by (repeat (first | (obtain ⟨rfl, _⟩ := h; rfl) | (obtain ⟨_, h⟩ := h)))) fun cdv A outer s H vs Q E hr h => ⟨t_turned_by K N, (PSs.nox (by exact (pss_cons (ps_set (i := 2) sc_turned_by.nd rfl (Or.inl rfl) (pe_op op_mod (pv 1) (pe_callB call_lenX rfl T.n_len bt_len (pa_cons (pv 0) pa_nil))))
 (pss_one (ps_ret (pe_op op_catX (pe_slice sl_x (pv 0) (po_some (pe_op op_sub (pe_callB call_lenX rfl T.n_len bt_len (pa_cons (pv 0) pa_nil)) (pv 2))) po_none) (pe_slice sl_x (pv 0) po_none (po_some (pe_op op_sub (pe_callB call_lenX rfl T.n_len bt_len (pa_cons (pv 0) pa_nil)) (pv 2)))))))))), pure_turned_by T vs H Q E h⟩
/-! ## seats -/
/-- the seats hs are stubborn seats of t -/
def Stub (t : List Nat) (hs : List Int) : Prop := hs.Nodup ∧ ∀ s ∈ hs, 0 ≤ s ∧ s < (t.length : Int) ∧ t.getD s.toNat 0 = 48
def sp_are_stubborn (K : PySem.W.Frag) (N : Nm) : Sp := fun vs H Q _ => ∃ (t : List Nat) (l : Addr) (hs : List Int), vs = [.str (S t), .ref l] ∧ H l = some (.lst (hs.map V.int)) ∧ t.length ≤ 1000 ∧ hs.length ≤ 1000 ∧ Stub t hs ∧ ∀ H', Kp N [] H H' → Q (.bl true) H'
def t_are_stubborn (K : PySem.W.Frag) (N : Nm) : TS :=
 (tSeq (tIfS (tOr (tNot (tB (tCB (rIsiT K) (tCons (tVar 1) (tCons (tTup (tCons (tC (.ty "list")) (tCons (tC (.ty "tuple")) tNil))) tNil))))) (tNot (tB (tCB (rAll K) (tCons (tLc (iList K (tVar 1)) (gName 3) tYes (tAndV (tCl (sp_is_count K N) E0 (tCons (tVar 3) tNil)) (tOp rLtI (tVar 3) (tCB rLenX (tCons (tVar 0) tNil)))) [3]) tNil)))))
 tNever tNext)
 (tRet (tAndV (tOp rEqI (RZ.tLenSetI K (tVar 1)) (tCB (rLenQ K) (tCons (tVar 1) tNil))) (tCB (rAll K) (tCons (tLc (iList K (tVar 1)) (gName 2) tYes (tOp rEqX (tOp rIxX (tVar 0) (tVar 2)) (tC (.str (S [48])))) [2]) tNil)))))
theorem all_true {α : Type} {xs : List α} {f : α → Bool} (h : ∀ x ∈ xs, f x = true) : (xs.map f).all id = true := by
  rw [List.all_map]
  exact List.all_eq_true.mpr h
theorem pure_are_stubborn (T : Txt K w mg N) (vs : List V) (H : Hp) (Q : VK) (E : XK) (h : sp_are_stubborn K N vs H Q E) : t_are_stubborn K N (Eo Q) (start nm_are_stubborn vs) H := by
  obtain ⟨t, l, hs, rfl, e, hl, hz, ⟨nd, hh⟩, q⟩ := h
  refine ⟨_, rfl, by show 2 ≤ sizeLine; decide, fun tp htp => ?_⟩
  have k1 : Kp N [] H (upd H tp (.tup [.ty "list", .ty "tuple"])) := Kp.refl.new htp
  have e1 := k1 _ _ e (.inl (by simp))
  refine ⟨_, tp, _, .type "list", [.type "list", .type "tuple"], true, rfl, upd_same, .cons (.ty _) (.cons (.ty _) .nil), .base (.lst e1), kitAny_cons (b := true) (kit_ty (by decide +kernel)) (fun z => nomatch z) (fun _ => rfl), _, rfl, ?_⟩
  refine ⟨_, rfl, l, rfl, ⟨_, .of e1⟩, fun D hD => ?_⟩
  have hlt : hs.length = (hs.map V.int).length := by simp
  refine lc_acc walk_list (fun i acc H' => acc = ((hs.take i).map fun _ => V.bl true) ∧ Kp N [] H H') (by simp; omega) ⟨rfl, (k1.new hD)⟩ (fun i acc H' r => by rw [r.1]; simp; omega) (fun i acc H' _ _ r => .of (r.2 _ _ e (.inl (by simp)))) ?_ ?_
  · rintro i x acc H1 H' hi e2 z ⟨rfl, k⟩ ⟨rfl, hx⟩
    rw [List.getElem?_map] at hx
    obtain ⟨s, hs1, rfl⟩ : ∃ s, hs[i]? = some s ∧ x = V.int s := by
      cases q : hs[i]? with
      | none => rw [q] at hx; cases hx
      | some s => rw [q] at hx; exact ⟨s, rfl, (Option.some.inj hx).symm⟩
    have hm := hh s (List.mem_of_getElem? hs1)
    refine ⟨rfl, _, rfl, s, rfl, _, rfl, ?_⟩
    rw [decide_eq_true hm.1]
    refine ⟨_, rfl, _, rfl, t, rfl, by omega, _, _, rfl, rfl, LcN.add e2 z ⟨?_, k.put (k1.fresh hD |>.resolve_right (by simp))⟩⟩
    show _ ++ [V.bl (decide (s < (t.length : Int)))] = _
    rw [decide_eq_true hm.2.1, List.take_add_one, hs1]
    simp
  · rintro acc H1 e2 ⟨rfl, k⟩
    refine ⟨D, hs.map fun _ => true, rfl, .inl (.inl ?_), _, rfl, ?_⟩
    · rw [e2, List.map_map, List.take_of_length_le (by simp)]
      rfl
    rw [all_true fun _ _ => rfl]
    have e3 := k _ _ e (.inl (by simp))
    refine ⟨_, rfl, l, hs, rfl, .of e3, nd, by omega, _, rfl, l, _, rfl, .inl (.of e3), _, _, rfl, rfl, _, rfl, ?_⟩
    rw [show (hs.length : Int) = ((hs.map V.int).length : Int) by simp, dec_rfl]
    refine ⟨_, rfl, l, rfl, ⟨_, .of e3⟩, fun D2 hD2 => ?_⟩
    refine lc_acc walk_list (fun i acc H' => acc = ((hs.take i).map fun _ => V.bl true) ∧ Kp N [] H1 H') (by simp; omega) ⟨rfl, (Kp.refl.new hD2)⟩ (fun i acc H' r => by rw [r.1]; simp; omega) (fun i acc H' _ _ r => .of (r.2 _ _ e3 (.inl (by simp)))) ?_ ?_
    · rintro i x acc H2 H' hi e4 z ⟨rfl, k4⟩ ⟨rfl, hx⟩
      rw [List.getElem?_map] at hx
      obtain ⟨s, hs1, rfl⟩ : ∃ s, hs[i]? = some s ∧ x = V.int s := by
        cases q : hs[i]? with
        | none => rw [q] at hx; cases hx
        | some s => rw [q] at hx; exact ⟨s, rfl, (Option.some.inj hx).symm⟩
      have hm := hh s (List.mem_of_getElem? hs1)
      refine ⟨rfl, _, rfl, _, rfl, t, s, _, rfl, rfl, by omega, atI_getD hm.1 hm.2.1, [_], [48], rfl, rfl, LcN.add e4 z ⟨?_, k4.put hD2⟩⟩
      rw [hm.2.2, dec_rfl, List.take_add_one, hs1]
      simp
    · rintro acc H2 e4 ⟨rfl, k4⟩
      refine ⟨D2, hs.map fun _ => true, rfl, .inl (.inl ?_), ?_⟩
      · rw [e4, List.map_map, List.take_of_length_le (by simp)]
        rfl
      rw [all_true fun _ _ => rfl]
      exact q _ (k.then k4)
theorem ok_are_stubborn (T : Txt K w mg N) : FnR Pw w K mg base CX0 6 N.are_stubborn (sp_are_stubborn K N) := by
  obtain ⟨fd, F, b⟩ := T.d_are_stubborn
  exact mk_fn F b sc_are_stubborn (fun vs H Q E h => by (repeat (first | (obtain ⟨rfl, _⟩ := h; rfl) | (obtain ⟨_, h⟩ := h)))) fun cdv A outer s H vs Q E hr h => ⟨t_are_stubborn K N, (PSs.nox (by exact (pss_cons (ps_if (PW.pt (pw_or (pt_not (pt_val (pe_callB call_isiT rfl T.n_isinstance bt_isinstance (pa_cons (pv 1) (pa_cons (pe_tup (pa_cons (pe_bltn rfl T.n_list bt_list rfl) (pa_cons (pe_bltn rfl T.n_tuple bt_tuple rfl) pa_nil))) pa_nil))))) (pw_or1 (pt_not (pt_val (pe_callB (cr_all rfl) rfl T.n_all bt_all (pa_cons (pe_lc (own := [(("one" : Str), 3)]) (g := (gName 3)) (tt := tYes) rfl sc_are_stubborn.nd (pi_list (pv 1)) (blkOk_by (N := nm_are_stubborn) (sc := defScope s_are_stubborn) (by decide +kernel)) (fun _ _ _ _ _ => (pg_name (i := 3) sc_are_stubborn.nd rfl (Or.inl rfl))) (fun _ _ _ _ _ => pts_nil) (fun _ _ _ _ _ => (pe_and (pe_cl (ok_is_count T) (hr.mono (by decide)) rfl T.g_is_count T.k_is_count pass0 (pa_cons (pv 3) pa_nil)) (pe_one (pe_cmpR op_lt (pv 3) (pe_callB call_lenX rfl T.n_len bt_len (pa_cons (pv 0) pa_nil)) (nomark _)))))) pa_nil))))))) pss_never pss_nil)
 (pss_one (ps_ret (pe_and (pe_cmpR op_eqI (RZ.pe_lenSetI rfl T.n_len rfl T.n_set (pv 1)) (pe_callB call_len_seq rfl T.n_len bt_len (pa_cons (pv 1) pa_nil)) (nomark _)) (pe_one (pe_callB (cr_all rfl) rfl T.n_all bt_all (pa_cons (pe_lc (own := [(("seat" : Str), 2)]) (g := (gName 2)) (tt := tYes) rfl sc_are_stubborn.nd (pi_list (pv 1)) (blkOk_by (N := nm_are_stubborn) (sc := defScope s_are_stubborn) (by decide +kernel)) (fun _ _ _ _ _ => (pg_name (i := 2) sc_are_stubborn.nd rfl (Or.inl rfl))) (fun _ _ _ _ _ => pts_nil) (fun _ _ _ _ _ => (pe_cmpR op_eqX (pe_ix ix_x (pv 0) (pv 2) (fun _ _ => rfl)) (pe_lit (l := [48]) (by decide +kernel)) (nomark _)))) pa_nil))))))))), pure_are_stubborn T vs H Q E h⟩
end
end Sw
namespace Sw
open PySem PySem.Spec PyProof.Rows L2
open SX (S S_cat S_len S_inj)
open SlX (SlO SlR putS slH)
section
variable {K : PySem.W.Frag} {w : World} {mg : Str → Option Value} {N : Nm} {base : Heap}
def sp_held_beat (K : PySem.W.Frag) (N : Nm) : Sp := fun vs H Q _ => ∃ (a : Addr) (tab : List Nat) (r : Nat) (t : List Nat) (l : Addr) (hs : List Int), vs = [.ref a, .str (S t), .ref l] ∧ RuleAt N H a tab r ∧ H l = some (.lst (hs.map V.int)) ∧ OkTab tab ∧ r ≤ 2 ∧ t ≠ [] ∧ t.length ≤ 900 ∧ OkT r t ∧
  ∀ H', Kp N [] H H' → Q (.str (S (hBeat tab r hs t))) H'
def t_held_beat (K : PySem.W.Frag) (N : Nm) : TS :=
 (tRet (tM1 (rJoinX K) (tC (.str (S []))) (tLc (iEnumS (tCons (SlX.tMethSl N.Rule (sp_Rule_ring_after K N) E0 (tVar 0) (tCons (tVar 1) tNil)) tNil)) (gTup K 2 (gCons (gName 3) (gCons (gName 4) gNil))) tYes (tIf (tTest (tOp (rIn K false) (tVar 3) (tVar 2))) (tC (.str (S [48]))) (tVar 4)) [3, 4])))
theorem if_f {c : Bool} {A B : Prop} (h : c = false) (q : B) : if c = true then A else B := by rw [h]; exact q
theorem if_t {c : Bool} {A B : Prop} (h : c = true) (q : A) : if c = true then A else B := by rw [h]; exact q
theorem pure_held_beat (T : Txt K w mg N) (vs : List V) (H : Hp) (Q : VK) (E : XK) (h : sp_held_beat K N vs H Q E) : t_held_beat K N (Eo Q) (start nm_held_beat vs) H := by
  obtain ⟨a, tab, r, t, l, hs, rfl, ra, el, ht, hr, hne, hl, ok, q⟩ := h
  obtain ⟨dr, e⟩ := id ra
  refine ⟨⟨_, rfl⟩, _, rfl, a, dr, _, rfl, e.slt, _, rfl, a, tab, r, t, rfl, ra, ht, hr, hne, hl, ok, fun H1 k1 => ⟨_, rfl, fun D hD => ?_⟩⟩
  have el1 := k1 _ _ el (.inl (by simp))
  have hn : (S (beat tab r t)).cps.size = t.length := by show (beat tab r t).toArray.size = _; simp
  refine lc_acc walk_enumS (fun i acc H' => acc = ((List.range i).map fun (i : Nat) => V.str (S [if (i : Int) ∈ hs then 48 else (beat tab r t).getD i 0])) ∧ Kp N [] H1 H') (by rw [hn]; omega) ⟨rfl, Kp.refl.new hD⟩ (fun i acc H' r => by rw [r.1]; simp) (fun _ _ _ _ _ _ => trivial) ?_ ?_
  · rintro i x acc H2 H' hi e2 z ⟨rfl, k⟩ ⟨tp, c, rfl, htp, rfl, hc⟩
    rw [hn] at hi
    have hc' : (beat tab r t)[i]? = some c := by simpa [S] using hc
    have hcd : (beat tab r t).getD i 0 = c := by rw [List.getD_eq_getElem?_getD, hc']; rfl
    have e2' := (upd_ne (o := .tup [.int (i : Nat), .str ⟨#[c]⟩]) (ne_of_none e2 htp)).trans e2
    have k' : Kp N [] H1 (upd H2 tp (.tup [.int (i : Nat), .str ⟨#[c]⟩])) := k.new htp
    refine ⟨tp, _, rfl, .of upd_same, rfl, _, _, rfl, _, _, rfl, rfl, rfl, _, rfl, _, rfl, l, _, rfl, .inl (.of (k' _ _ el1 (.inl (by simp)))), rfl, flat_ints _, _, rfl, ?_⟩
    show if inV (V.int (i : Nat)) (hs.map V.int) = true then _ else _
    rw [inV_ints]
    by_cases c1 : ((i : Nat) : Int) ∈ hs
    · refine if_t (decide_eq_true c1) (LcN.add e2' z ⟨?_, k'.put hD⟩)
      rw [range_snoc, if_pos c1]
    · refine if_f (decide_eq_false c1) ⟨_, rfl, LcN.add e2' z ⟨?_, k'.put hD⟩⟩
      rw [range_snoc, if_neg c1, hcd]
  · rintro acc H2 e2 ⟨rfl, k⟩
    rw [hn] at e2
    refine ⟨D, (List.range t.length).map fun (i : Nat) => [if (i : Int) ∈ hs then 48 else (beat tab r t).getD i 0], rfl, rfl, .inl (.inl ?_), ?_, ?_⟩
    · rw [e2, List.map_map]; rfl
    · rw [sum_one (f := fun (i : Nat) => if (i : Int) ∈ hs then 48 else (beat tab r t).getD i 0)]; omega
    · rw [flat_map (f := fun (i : Nat) => if (i : Int) ∈ hs then 48 else (beat tab r t).getD i 0)]
      exact q _ (k1.then k)
theorem ok_held_beat (T : Txt K w mg N) : FnR Pw w K mg base CX0 8 N.held_beat (sp_held_beat K N) := by
  obtain ⟨fd, F, b⟩ := T.d_held_beat
  exact mk_fn F b sc_held_beat (fun vs H Q E h => by (repeat (first | (obtain ⟨rfl, _⟩ := h; rfl) | (obtain ⟨_, h⟩ := h)))) fun cdv A outer s H vs Q E hr h => ⟨t_held_beat K N, (PSs.nox (by exact (pss_one (ps_ret (pe_joinX (pe_lit (l := []) (by decide +kernel)) (pe_lc (own := [(("seat" : Str), 3), (("sign" : Str), 4)]) (g := (gTup K 2 (gCons (gName 3) (gCons (gName 4) gNil)))) (tt := tYes) rfl sc_held_beat.nd (pi_enumS rfl T.n_enumerate (pa_cons (SlX.pe_methSl (pv 0) T.c_Rule T.m_Rule_ring_after (ok_Rule_ring_after T) (hr.mono (by decide)) pass0 (pa_cons (pv 1) pa_nil)) pa_nil)) (blkOk_by (N := nm_held_beat) (sc := defScope s_held_beat) (by decide +kernel)) (fun _ _ _ _ _ => (pg_tup rfl (pgs_cons (pg_name (i := 3) sc_held_beat.nd rfl (Or.inl rfl)) (pgs_cons (pg_name (i := 4) sc_held_beat.nd rfl (Or.inl rfl)) pgs_nil)))) (fun _ _ _ _ _ => pts_nil) (fun _ _ _ _ _ => (pe_ifExp (pt_cmpR op_in_seq (pv 3) (pv 2) (by with_unfolding_all rfl)) (pe_lit (l := [48]) (by decide +kernel)) (pv 4))))))))), pure_held_beat T vs H Q E h⟩
def sp_need_seats (K : PySem.W.Frag) (N : Nm) : Sp := fun vs H Q _ => ∃ (t : List Nat) (l : Addr) (hs : List Int), vs = [.str (S t), .ref l] ∧ H l = some (.lst (hs.map V.int)) ∧ t.length ≤ 1000 ∧ hs.length ≤ 1000 ∧ Stub t hs ∧ ∀ H', Kp N [] H H' → Q .non H'
def t_need_seats (K : PySem.W.Frag) (N : Nm) : TS :=
 (tIfS (tNot (tB (tCl (sp_are_stubborn K N) E0 (tCons (tVar 0) (tCons (tVar 1) tNil)))))
 tNever tNext)
theorem pure_need_seats (T : Txt K w mg N) (vs : List V) (H : Hp) (Q : VK) (E : XK) (h : sp_need_seats K N vs H Q E) : t_need_seats K N (Eo Q) (start nm_need_seats vs) H := by
  obtain ⟨t, l, hs, rfl, e, h1, h2, st, q⟩ := h
  exact ⟨_, rfl, _, rfl, t, l, hs, rfl, e, h1, h2, st, fun H1 k1 => ⟨_, rfl, if_f rfl (q _ k1)⟩⟩
theorem ok_need_seats (T : Txt K w mg N) : FnR Pw w K mg base CX0 7 N.need_seats (sp_need_seats K N) := by
  obtain ⟨fd, F, b⟩ := T.d_need_seats
  exact mk_fn F b sc_need_seats (fun vs H Q E h => by (repeat (first | (obtain ⟨rfl, _⟩ := h; rfl) | (obtain ⟨_, h⟩ := h)))) fun cdv A outer s H vs Q E hr h => ⟨t_need_seats K N, (PSs.nox (by exact (pss_one (ps_if (pt_not (pt_val (pe_cl (ok_are_stubborn T) (hr.mono (by decide)) rfl T.g_are_stubborn T.k_are_stubborn pass0 (pa_cons (pv 0) (pa_cons (pv 1) pa_nil))))) pss_never pss_nil)))), pure_need_seats T vs H Q E h⟩
def sp_held_after (K : PySem.W.Frag) (N : Nm) : Sp := fun vs H Q _ => ∃ (a : Addr) (tab : List Nat) (r : Nat) (t : List Nat) (l : Addr) (hs : List Int) (m : Nat), vs = [.ref a, .str (S t), .ref l, .int m] ∧ RuleAt N H a tab r ∧ H l = some (.lst (hs.map V.int)) ∧ OkTab tab ∧ r ≤ 2 ∧ t ≠ [] ∧ t.length ≤ 900 ∧ OkT r t ∧ hs.length ≤ 1000 ∧ Stub t hs ∧ m ≤ 1000 ∧
  ∀ H', Kp N [] H H' → Q (.str (S (itr (hBeat tab r hs) m t))) H'
def t_held_after (K : PySem.W.Frag) (N : Nm) : TS :=
 (tSeq (tDrop (tCl (sp_need_seats K N) E0 (tCons (tVar 1) (tCons (tVar 2) tNil))))
 (tSeq (tFor (iRng1 (tCons (tVar 3) tNil)) (gName 4)
 ((tAsg (tCl (sp_held_beat K N) E0 (tCons (tVar 0) (tCons (tVar 1) (tCons (tVar 2) tNil)))) (gName 1))))
 (tRet (tVar 1))))
theorem pure_held_after (T : Txt K w mg N) (vs : List V) (H : Hp) (Q : VK) (E : XK) (h : sp_held_after K N vs H Q E) : t_held_after K N (Eo Q) (start nm_held_after vs) H := by
  obtain ⟨a, tab, r, t, l, hs, m, rfl, ra, el, ht, hr, hne, hl, ok, hz, st, hm, q⟩ := h
  refine ⟨_, rfl, _, rfl, t, l, hs, rfl, el, by omega, hz, st, fun H1 k1 => ?_⟩
  refine ⟨_, rfl, m, rfl, by omega, by omega, ?_⟩
  have em : ((m : Nat) : Int).toNat = m := by omega
  rw [em]
  refine for_range (fun i σ H' => ∃ v, σ = [some (.ref a), some (.str (S (itr (hBeat tab r hs) i t))), some (.ref l), some (.int m), v] ∧ Kp N [] H H') ⟨none, rfl, k1⟩ ?_ ?_
  · rintro i σ H2 hi ⟨v, rfl, k⟩
    refine ⟨_, rfl, _, rfl, _, rfl, a, tab, r, _, l, hs, rfl, ra.keep k, k _ _ el (.inl (by simp)), ht, hr, ?_, ?_, itr_hBeat_ok ht ok i, fun H3 k3 => ⟨_, rfl, k.then k3⟩⟩
    · intro z
      have := congrArg List.length z
      rw [itr_hBeat_length] at this
      exact hne (List.length_eq_zero_iff.mp this)
    · rw [itr_hBeat_length]; exact hl
  · rintro σ H2 ⟨v, rfl, k⟩
    exact ⟨_, rfl, q _ k⟩
theorem ok_held_after (T : Txt K w mg N) : FnR Pw w K mg base CX0 9 N.held_after (sp_held_after K N) := by
  obtain ⟨fd, F, b⟩ := T.d_held_after
  exact mk_fn F b sc_held_after (fun vs H Q E h => by (repeat (first | (obtain ⟨rfl, _⟩ := h; rfl) | (obtain ⟨_, h⟩ := h)))) fun cdv A outer s H vs Q E hr h => ⟨t_held_after K N, (PSs.nox (by exact (pss_cons (ps_expr (pe_cl (ok_need_seats T) (hr.mono (by decide)) rfl T.g_need_seats T.k_need_seats pass0 (pa_cons (pv 1) (pa_cons (pv 2) pa_nil))))
 (pss_cons (ps_for PassesOwn.never rfl (pi_range1 rfl T.n_range (pa_cons (pv 3) pa_nil)) (pg_name (i := 4) sc_held_after.nd rfl (Or.inl rfl))
 (pss_one (ps_set (i := 1) sc_held_after.nd rfl (Or.inl rfl) (pe_cl (ok_held_beat T) (hr.mono (by decide)) rfl T.g_held_beat T.k_held_beat pass0 (pa_cons (pv 0) (pa_cons (pv 1) (pa_cons (pv 2) pa_nil)))))))
 (pss_one (ps_ret (pv 1))))))), pure_held_after T vs H Q E h⟩
def sp_after (K : PySem.W.Frag) (N : Nm) : Sp := fun vs H Q _ => ∃ (a : Addr) (tab : List Nat) (r : Nat) (t : List Nat) (m : Nat), vs = [.ref a, .str (S t), .int m] ∧ RuleAt N H a tab r ∧ OkTab tab ∧ r ≤ 2 ∧ t ≠ [] ∧ t.length ≤ 900 ∧ OkT r t ∧ m ≤ 1000 ∧
  ∀ H', Kp N [] H H' → Q (.str (S (itr (hBeat tab r []) m t))) H'
def t_after (K : PySem.W.Frag) (N : Nm) : TS :=
 (tSeq (tFor (iRng1 (tCons (tVar 2) tNil)) (gName 3)
 ((tAsg (SlX.tMethSl N.Rule (sp_Rule_ring_after K N) E0 (tVar 0) (tCons (tVar 1) tNil)) (gName 1))))
 (tRet (tVar 1)))
theorem pure_after (T : Txt K w mg N) (vs : List V) (H : Hp) (Q : VK) (E : XK) (h : sp_after K N vs H Q E) : t_after K N (Eo Q) (start nm_after vs) H := by
  obtain ⟨a, tab, r, t, m, rfl, ra, ht, hr, hne, hl, ok, hm, q⟩ := h
  refine ⟨_, rfl, m, rfl, by omega, by omega, ?_⟩
  have em : ((m : Nat) : Int).toNat = m := by omega
  rw [em]
  refine for_range (fun i σ H' => ∃ v, σ = [some (.ref a), some (.str (S (itr (hBeat tab r []) i t))), some (.int m), v] ∧ Kp N [] H H') ⟨none, rfl, Kp.refl⟩ ?_ ?_
  · rintro i σ H2 hi ⟨v, rfl, k⟩
    obtain ⟨dr, e⟩ := ra.keep k
    refine ⟨_, rfl, a, dr, _, rfl, e.slt, _, rfl, a, tab, r, _, rfl, ⟨dr, e⟩, ht, hr, ?_, ?_, itr_hBeat_ok ht ok i, fun H3 k3 => ⟨some (.int (0 + i)), ?_, k.then k3⟩⟩
    · intro z
      have := congrArg List.length z
      rw [itr_hBeat_length] at this
      exact hne (List.length_eq_zero_iff.mp this)
    · rw [itr_hBeat_length]; exact hl
    · rw [itr, hBeat_nil]; rfl
  · rintro σ H2 ⟨v, rfl, k⟩
    exact ⟨_, rfl, q _ k⟩
theorem ok_after (T : Txt K w mg N) : FnR Pw w K mg base CX0 8 N.after (sp_after K N) := by
  obtain ⟨fd, F, b⟩ := T.d_after
  exact mk_fn F b sc_after (fun vs H Q E h => by (repeat (first | (obtain ⟨rfl, _⟩ := h; rfl) | (obtain ⟨_, h⟩ := h)))) fun cdv A outer s H vs Q E hr h => ⟨t_after K N, (PSs.nox (by exact (pss_cons (ps_for PassesOwn.never rfl (pi_range1 rfl T.n_range (pa_cons (pv 2) pa_nil)) (pg_name (i := 3) sc_after.nd rfl (Or.inl rfl))
 (pss_one (ps_set (i := 1) sc_after.nd rfl (Or.inl rfl) (SlX.pe_methSl (pv 0) T.c_Rule T.m_Rule_ring_after (ok_Rule_ring_after T) (hr.mono (by decide)) pass0 (pa_cons (pv 1) pa_nil)))))
 (pss_one (ps_ret (pv 1)))))), pure_after T vs H Q E h⟩
end
end Sw
namespace Sw
open PySem PySem.Spec PyProof.Rows L2
open SX (S S_cat S_len S_inj)
open SlX (SlO SlR putS slH)
section
variable {K : PySem.W.Frag} {w : World} {mg : Str → Option Value} {N : Nm} {base : Heap}
/-! ## Moment -/
def sp_Moment_init (K : PySem.W.Frag) (N : Nm) : Sp := fun vs H Q _ => ∃ (m dm a : Addr) (tab : List Nat) (r : Nat) (t : List Nat), vs = [.ref m, .ref a, .str (S t)] ∧ NewA H m N.Moment dm ∧ RuleAt N H a tab r ∧
  ∀ H' hl, H hl = none → MomAt N H' m [m, dm, hl] (mom0 tab r t) → Kp N [m, dm] H H' → Q .non H'
def t_Moment_init (K : PySem.W.Frag) (N : Nm) : TS :=
 (tAsg (tTup (tCons (tVar 1) (tCons (tVar 2) (tCons (tLst tNil) (tCons (tC (.int 0)) tNil))))) (gTup K 4 (gCons (gSl K (tVar 0) "now_rule") (gCons (gSl K (tVar 0) "now_text") (gCons (gSl K (tVar 0) "now_held") (gCons (gSl K (tVar 0) "now_beats") gNil))))))
theorem pure_Moment_init (T : Txt K w mg N) (vs : List V) (H : Hp) (Q : VK) (E : XK) (h : sp_Moment_init K N vs H Q E) : t_Moment_init K N (Eo Q) (start nm_Moment_init vs) H := by
  obtain ⟨m, dm, a, tab, r, t, rfl, new, ra, q⟩ := h
  obtain ⟨p1, s1⟩ := T.s_Moment_now_rule
  obtain ⟨p2, s2⟩ := T.s_Moment_now_text
  obtain ⟨p3, s3⟩ := T.s_Moment_now_held
  obtain ⟨p4, s4⟩ := T.s_Moment_now_beats
  refine ⟨_, rfl, _, rfl, by show 0 ≤ sizeLine; decide, fun hl hhl => ?_⟩
  have k1 : Kp N [m, dm] H (upd H hl (.lst [])) := Kp.refl.new hhl
  have n1 := new.keep (N := N) (l := []) (Kp.refl.new (p := hl) (o := .lst []) hhl) (by simp) (by simp)
  refine ⟨by show 4 ≤ sizeLine; decide, fun tp htp => ?_⟩
  have k2 : Kp N [m, dm] H (upd (upd H hl (.lst [])) tp (.tup [.ref a, .str (S t), .ref hl, .int 0])) := k1.new htp
  have n2 := n1.keep (N := N) (l := []) (Kp.refl.new (p := tp) (o := .tup [.ref a, .str (S t), .ref hl, .int 0]) htp) (by simp) (by simp)
  have eh2 : (upd (upd H hl (.lst [])) tp (.tup [.ref a, .str (S t), .ref hl, .int 0])) hl = some (.lst []) := (upd_ne (ne_of_none upd_same htp)).trans upd_same
  generalize hH2 : upd (upd H hl (.lst [])) tp (.tup [.ref a, .str (S t), .ref hl, .int 0]) = H2 at *
  have neRM := T.neRM
  have np : ∀ {us : List (Option V)}, ¬ Prm N (SlO m N.Moment dm us) := not_prm_slo (Ne.symm neRM)
  refine ⟨tp, _, rfl, .of (by rw [← hH2]; exact upd_same), rfl, _, _, rfl, _, rfl, m, _, dm, p1, _, 2, rfl, n2.slt, T.c_Moment, s1, ?_⟩
  have a1 : SlA (slH H2 m N.Moment dm (putS 2 (.ref a) [])) m N.Moment dm [none, none, some (.ref a)] := slA_put n2.ne
  have k3 : Kp N [m, dm] H _ := k2.sl0 (vs := [none, none, some (.ref a)]) n2 (.inl (by simp)) (.inl (by simp))
  refine ⟨_, _, rfl, _, rfl, m, _, dm, p2, _, 3, rfl, a1.slt, T.c_Moment, s2, ?_⟩
  have k4 := k3.slA (vs := [none, none, some (.ref a), some (.str (S t))]) a1 np (.inl (by simp))
  have a2 : SlA (slH (slH H2 m N.Moment dm [none, none, some (.ref a)]) m N.Moment dm [none, none, some (.ref a), some (.str (S t))]) m N.Moment dm [none, none, some (.ref a), some (.str (S t))] := slA_put n2.ne
  refine ⟨_, _, rfl, _, rfl, m, _, dm, p3, _, 1, rfl, a2.slt, T.c_Moment, s3, ?_⟩
  have k5 := k4.slA (vs := [none, some (.ref hl), some (.ref a), some (.str (S t))]) a2 np (.inl (by simp))
  have a3 : SlA (slH (slH (slH H2 m N.Moment dm [none, none, some (.ref a)]) m N.Moment dm [none, none, some (.ref a), some (.str (S t))]) m N.Moment dm [none, some (.ref hl), some (.ref a), some (.str (S t))]) m N.Moment dm [none, some (.ref hl), some (.ref a), some (.str (S t))] := slA_put n2.ne
  refine ⟨_, _, rfl, _, rfl, m, _, dm, p4, _, 0, rfl, a3.slt, T.c_Moment, s4, rfl, ?_⟩
  have k6 := k5.slA (vs := [some (.int 0), some (.ref hl), some (.ref a), some (.str (S t))]) a3 np (.inl (by simp))
  have h1 : hl ≠ m := ne_of eh2 n2.at_ (fun z => by cases z)
  have h2 : hl ≠ dm := ne_of eh2 n2.dx (fun z => by cases z)
  refine q _ hl hhl ⟨dm, a, hl, rfl, slA_put n2.ne, ra.keep k6, ?_⟩ k6
  show slH _ m N.Moment dm _ hl = _
  rw [SlX.slH_ne h1 h2, SlX.slH_ne h1 h2, SlX.slH_ne h1 h2, SlX.slH_ne h1 h2]
  exact eh2
theorem ok_Moment_init (T : Txt K w mg N) : FnR Pw w K mg base CX0 4 N.Moment_init (sp_Moment_init K N) := by
  obtain ⟨fd, F, b⟩ := T.d_Moment_init
  exact mk_fn F b sc_Moment_init (fun vs H Q E h => by (repeat (first | (obtain ⟨rfl, _⟩ := h; rfl) | (obtain ⟨_, h⟩ := h)))) fun cdv A outer s H vs Q E hr h => ⟨t_Moment_init K N, (PSs.nox (by exact (pss_one (ps_asg (pe_tup (pa_cons (pv 1) (pa_cons (pv 2) (pa_cons (pe_lst pa_nil) (pa_cons pe_int pa_nil))))) (pg_tup rfl (pgs_cons (pg_sl (pv 0)) (pgs_cons (pg_sl (pv 0)) (pgs_cons (pg_sl (pv 0)) (pgs_cons (pg_sl (pv 0)) pgs_nil))))))))), pure_Moment_init T vs H Q E h⟩
def sp_Moment_can_do (K : PySem.W.Frag) (N : Nm) : Sp := fun vs H Q _ => ∃ (m d : Addr) (own : List Addr) (M : Mom) (D : Deed) (n r k : Nat), vs = [.ref m, .ref d] ∧ MomAt N H m own M ∧ H d = some (.tup (dV D)) ∧ MomOk n r k M ∧ Wf n r D ∧ Q (.bl (canDo M D)) H
def t_Moment_can_do (K : PySem.W.Frag) (N : Nm) : TS :=
 (tSeq (tIfS (tTest (tOp rEqX (tOp (rIxT K) (tVar 1) (tC (.int 0))) (tC (.str (S [115, 101, 97, 116])))))
 (tRet (tAndV (tOp (rIn K true) (tOp (rIxT K) (tVar 1) (tC (.int 1))) (SlX.tSl K (tVar 0) "now_held")) (tOp rNeX (tOp rIxX (SlX.tSl K (tVar 0) "now_text") (tOp (rIxT K) (tVar 1) (tC (.int 1)))) (tOp (rIxT K) (tVar 1) (tC (.int 2)))))) tNext)
 (tSeq (tIfS (tTest (tOp rEqX (tOp (rIxT K) (tVar 1) (tC (.int 0))) (tC (.str (S [104, 111, 108, 100])))))
 (tRet (tAndV (tOp (rIn K true) (tOp (rIxT K) (tVar 1) (tC (.int 1))) (SlX.tSl K (tVar 0) "now_held")) (tOp rEqX (tOp rIxX (SlX.tSl K (tVar 0) "now_text") (tOp (rIxT K) (tVar 1) (tC (.int 1)))) (tC (.str (S [48])))))) tNext)
 (tRet (tOrV (tOp rNeX (tOp (rIxT K) (tVar 1) (tC (.int 0))) (tC (.str (S [102, 114, 101, 101])))) (tOp (rIn K false) (tOp (rIxT K) (tVar 1) (tC (.int 1))) (SlX.tSl K (tVar 0) "now_held"))))))
/-- the word of a deed -/
def dW : Deed → List Nat
  | .beats _ => W0
  | .seat _ _ => W1
  | .turn _ => W2
  | .table _ => W3
  | .hold _ => W4
  | .free _ => W5
theorem dV_0 (D : Deed) : atI (dV D) 0 = some (.str (S (dW D))) := by cases D <;> rfl
theorem pure_Moment_can_do (T : Txt K w mg N) (vs : List V) (H : Hp) (Q : VK) (E : XK) (h : sp_Moment_can_do K N vs H Q E) : t_Moment_can_do K N (Eo Q) (start nm_Moment_can_do vs) H := by
  obtain ⟨m, d, own, M, D, n, r, k, rfl, ma, ed, ok, wf, q⟩ := h
  obtain ⟨dm, a, hl, rfl, sa, ra, eh⟩ := ma
  obtain ⟨p2, s2⟩ := T.s_Moment_now_text
  obtain ⟨p3, s3⟩ := T.s_Moment_now_held
  refine ⟨_, rfl, d, _, _, _, rfl, rfl, .of ed, dV_0 D, _, _, rfl, rfl, _, rfl, ?_⟩
  have hl' := ok.len
  have n1 := ok.n1
  cases D with
  | seat i c =>
    have hi : i < n := wf.1
    refine if_t (by first | decide | simp [dW]) ⟨_, rfl, d, _, _, _, rfl, rfl, .of ed, rfl, _, rfl, m, _, dm, p3, _, 1, _, rfl, sa.slt, T.c_Moment, s3, rfl, hl, _, rfl, .inl (.of eh), rfl, flat_ints _, ?_⟩
    show ∃ c', V.bl (!inV (V.int (i : Nat)) (M.hs.map V.int)) = V.bl c' ∧ _
    rw [inV_ints]
    refine ⟨_, rfl, ?_⟩
    by_cases c1 : ((i : Nat) : Int) ∈ M.hs
    · refine if_f (by simp [c1]) ?_
      have : canDo M (.seat i c) = false := by simp [canDo, c1]
      rw [this] at q; exact q
    · refine if_t (by simp [c1]) ⟨_, rfl, m, _, dm, p2, _, 3, _, rfl, sa.slt, T.c_Moment, s2, rfl, _, rfl, d, _, _, _, rfl, rfl, .of ed, rfl, M.t, _, _, rfl, rfl, by omega, atI_getD (by omega) (by omega), ?_⟩
      refine ⟨_, rfl, d, _, _, _, rfl, rfl, .of ed, rfl, _, _, rfl, rfl, ?_⟩
      have : canDo M (.seat i c) = !decide ([M.t.getD ((i : Nat) : Int).toNat 0] = [c]) := by simp [canDo, c1]
      rw [← this]
      exact q
  | hold i =>
    have hi : i < n := wf
    refine if_f (by first | decide | simp [dW]) ⟨_, rfl, d, _, _, _, rfl, rfl, .of ed, rfl, _, _, rfl, rfl, _, rfl, ?_⟩
    refine if_t (by first | decide | simp [dW]) ⟨_, rfl, d, _, _, _, rfl, rfl, .of ed, rfl, _, rfl, m, _, dm, p3, _, 1, _, rfl, sa.slt, T.c_Moment, s3, rfl, hl, _, rfl, .inl (.of eh), rfl, flat_ints _, ?_⟩
    show ∃ c', V.bl (!inV (V.int (i : Nat)) (M.hs.map V.int)) = V.bl c' ∧ _
    rw [inV_ints]
    refine ⟨_, rfl, ?_⟩
    by_cases c1 : ((i : Nat) : Int) ∈ M.hs
    · refine if_f (by simp [c1]) ?_
      have : canDo M (.hold i) = false := by simp [canDo, c1]
      rw [this] at q; exact q
    · refine if_t (by simp [c1]) ⟨_, rfl, m, _, dm, p2, _, 3, _, rfl, sa.slt, T.c_Moment, s2, rfl, _, rfl, d, _, _, _, rfl, rfl, .of ed, rfl, M.t, _, _, rfl, rfl, by omega, atI_getD (by omega) (by omega), _, _, rfl, rfl, ?_⟩
      have : canDo M (.hold i) = decide ([M.t.getD ((i : Nat) : Int).toNat 0] = [48]) := by simp [canDo, c1]
      rw [← this]
      exact q
  | free i =>
    refine if_f (by first | decide | simp [dW]) ⟨_, rfl, d, _, _, _, rfl, rfl, .of ed, rfl, _, _, rfl, rfl, _, rfl, ?_⟩
    refine if_f (by first | decide | simp [dW]) ⟨_, rfl, d, _, _, _, rfl, rfl, .of ed, rfl, _, _, rfl, rfl, _, rfl, ?_⟩
    refine if_f (by first | decide | simp [dW]) ⟨_, rfl, d, _, _, _, rfl, rfl, .of ed, rfl, _, rfl, m, _, dm, p3, _, 1, _, rfl, sa.slt, T.c_Moment, s3, rfl, hl, _, rfl, .inl (.of eh), rfl, flat_ints _, ?_⟩
    show Q (V.bl (inV (V.int (i : Nat)) (M.hs.map V.int))) H
    rw [inV_ints]
    exact q
  | beats j =>
    refine if_f (by first | decide | simp [dW]) ⟨_, rfl, d, _, _, _, rfl, rfl, .of ed, rfl, _, _, rfl, rfl, _, rfl, ?_⟩
    refine if_f (by first | decide | simp [dW]) ⟨_, rfl, d, _, _, _, rfl, rfl, .of ed, rfl, _, _, rfl, rfl, _, rfl, ?_⟩
    exact if_t (by first | decide | simp [dW]) q
  | turn p =>
    refine if_f (by first | decide | simp [dW]) ⟨_, rfl, d, _, _, _, rfl, rfl, .of ed, rfl, _, _, rfl, rfl, _, rfl, ?_⟩
    refine if_f (by first | decide | simp [dW]) ⟨_, rfl, d, _, _, _, rfl, rfl, .of ed, rfl, _, _, rfl, rfl, _, rfl, ?_⟩
    exact if_t (by first | decide | simp [dW]) q
  | table tb =>
    refine if_f (by first | decide | simp [dW]) ⟨_, rfl, d, _, _, _, rfl, rfl, .of ed, rfl, _, _, rfl, rfl, _, rfl, ?_⟩
    refine if_f (by first | decide | simp [dW]) ⟨_, rfl, d, _, _, _, rfl, rfl, .of ed, rfl, _, _, rfl, rfl, _, rfl, ?_⟩
    exact if_t (by first | decide | simp [dW]) q
theorem ok_Moment_can_do (T : Txt K w mg N) : FnR Pw w K mg base CX0 4 N.Moment_can_do (sp_Moment_can_do K N) := by
  obtain ⟨fd, F, b⟩ := T.d_Moment_can_do
  exact mk_fn F b sc_Moment_can_do (fun vs H Q E h => by (repeat (first | (obtain ⟨rfl, _⟩ := h; rfl) | (obtain ⟨_, h⟩ := h)))) fun cdv A outer s H vs Q E hr h => ⟨t_Moment_can_do K N, (PSs.nox (by exact (pss_cons (ps_if (pt_cmpR op_eqX (pe_ix ix_tup (pv 1) pe_int (fun _ _ => rfl)) (pe_lit (l := [115, 101, 97, 116]) (by decide +kernel)) (nomark _)) (pss_one (ps_ret (pe_and (pe_cmpR op_notIn_seq (pe_ix ix_tup (pv 1) pe_int (fun _ _ => rfl)) (SlX.pe_sl (pv 0)) (by with_unfolding_all rfl)) (pe_one (pe_cmpR op_neX (pe_ix ix_x (SlX.pe_sl (pv 0)) (pe_ix ix_tup (pv 1) pe_int (fun _ _ => rfl)) (fun _ _ => rfl)) (pe_ix ix_tup (pv 1) pe_int (fun _ _ => rfl)) (nomark _)))))) pss_nil)
 (pss_cons (ps_if (pt_cmpR op_eqX (pe_ix ix_tup (pv 1) pe_int (fun _ _ => rfl)) (pe_lit (l := [104, 111, 108, 100]) (by decide +kernel)) (nomark _)) (pss_one (ps_ret (pe_and (pe_cmpR op_notIn_seq (pe_ix ix_tup (pv 1) pe_int (fun _ _ => rfl)) (SlX.pe_sl (pv 0)) (by with_unfolding_all rfl)) (pe_one (pe_cmpR op_eqX (pe_ix ix_x (SlX.pe_sl (pv 0)) (pe_ix ix_tup (pv 1) pe_int (fun _ _ => rfl)) (fun _ _ => rfl)) (pe_lit (l := [48]) (by decide +kernel)) (nomark _)))))) pss_nil)
 (pss_one (ps_ret (pe_or (pe_cmpR op_neX (pe_ix ix_tup (pv 1) pe_int (fun _ _ => rfl)) (pe_lit (l := [102, 114, 101, 101]) (by decide +kernel)) (nomark _)) (pe_one (pe_cmpR op_in_seq (pe_ix ix_tup (pv 1) pe_int (fun _ _ => rfl)) (SlX.pe_sl (pv 0)) (by with_unfolding_all rfl)))))))))), pure_Moment_can_do T vs H Q E h⟩
end
end Sw
namespace Sw
open PySem PySem.Spec PyProof.Rows L2
open SX (S S_cat S_len S_inj)
open SlX (SlO SlR putS slH)
section
variable {K : PySem.W.Frag} {w : World} {mg : Str → Option Value} {N : Nm} {base : Heap}
def sp_Moment_do (K : PySem.W.Frag) (N : Nm) : Sp := fun vs H Q _ => ∃ (m d : Addr) (own : List Addr) (M : Mom) (D : Deed) (n r k : Nat), vs = [.ref m, .ref d] ∧ MomAt N H m own M ∧ H d = some (.tup (dV D)) ∧ MomOk n r k M ∧ k ≤ 1000 ∧ Wf n r D ∧
  ∀ H' own', MomAt N H' m own' (ap M D) → Kp N own H H' → Grow H own own' → Q .non H'
def t_Moment_do (K : PySem.W.Frag) (N : Nm) : TS :=
 (tSeq (tAsg (tTup (tCons (tOp (rIxT K) (tVar 1) (tC (.int 0))) (tCons (tOp (rIxT K) (tVar 1) (tC (.int 1))) tNil))) (gTup K 2 (gCons (gName 2) (gCons (gName 3) gNil))))
 (tIfS (tTest (tOp rEqX (tVar 2) (tC (.str (S [98, 101, 97, 116, 115])))))
 (tSeq (tFor (iRng1 (tCons (tVar 3) tNil)) (gName 4)
 ((SlX.sSl K (tVar 0) (tCl (sp_held_beat K N) E0 (tCons (SlX.tSl K (tVar 0) "now_rule") (tCons (SlX.tSl K (tVar 0) "now_text") (tCons (SlX.tSl K (tVar 0) "now_held") tNil)))) "now_text")))
 (sSlAug K (tVar 0) (tVar 3) rAdd "now_beats")) (tIfS (tTest (tOp rEqX (tVar 2) (tC (.str (S [115, 101, 97, 116])))))
 (SlX.sSl K (tVar 0) (tOp rCatX (tOp rCatX (L2.tSl rSlX (SlX.tSl K (tVar 0) "now_text") tNoPart (tPart (tVar 3))) (tOp (rIxT K) (tVar 1) (tC (.int 2)))) (L2.tSl rSlX (SlX.tSl K (tVar 0) "now_text") (tPart (tOp rAddI (tVar 3) (tC (.int 1)))) tNoPart)) "now_text") (tIfS (tTest (tOp rEqX (tVar 2) (tC (.str (S [116, 117, 114, 110])))))
 (tSeq (tAsg (tCB rLenX (tCons (SlX.tSl K (tVar 0) "now_text") tNil)) (gName 5))
 (tSeq (SlX.sSl K (tVar 0) (tCl (sp_turned_by K N) E0 (tCons (SlX.tSl K (tVar 0) "now_text") (tCons (tVar 3) tNil))) "now_text")
 (SlX.sSl K (tVar 0) (tCB (rSortedI K) (tCons (tLc (iList K (SlX.tSl K (tVar 0) "now_held")) (gName 6) tYes (tOp rModI (tOp rAddI (tVar 6) (tVar 3)) (tVar 5)) [6]) tNil)) "now_held"))) (tIfS (tTest (tOp rEqX (tVar 2) (tC (.str (S [116, 97, 98, 108, 101])))))
 (SlX.sSl K (tVar 0) (StX.tMakeR N.Rule (sp_Rule_init K N) E0 (tCons (tVar 3) (tCons (SlX.tPropSl N.Rule (sp_Rule_rests K N) E0 (SlX.tSl K (tVar 0) "now_rule")) tNil))) "now_rule") (tIfS (tTest (tOp rEqX (tVar 2) (tC (.str (S [104, 111, 108, 100])))))
 (SlX.sSl K (tVar 0) (tCB (rSortedI K) (tCons (tLst (StX.tStar K (SlX.tSl K (tVar 0) "now_held") (tCons (tVar 3) tNil))) tNil)) "now_held") (SlX.sSl K (tVar 0) (tLc (iList K (SlX.tSl K (tVar 0) "now_held")) (gName 6) (tTest (tOp rNeI (tVar 6) (tVar 3))) (tVar 6) [6]) "now_held")))))))
theorem map_filter_int {hs : List Int} {x : Int} (i : Nat) : (hs.take i).filter (fun s => !decide (s = x)) = (hs.take i).filter (fun s => !decide (s = x)) := rfl
theorem int_at {hs : List Int} {i : Nat} {x : V} (h : (hs.map V.int)[i]? = some x) : ∃ s, hs[i]? = some s ∧ x = V.int s := by
  rw [List.getElem?_map] at h
  cases q : hs[i]? with
  | none => rw [q] at h; cases h
  | some s => rw [q] at h; exact ⟨s, rfl, (Option.some.inj h).symm⟩
theorem pure_Moment_do (T : Txt K w mg N) (vs : List V) (H : Hp) (Q : VK) (E : XK) (h : sp_Moment_do K N vs H Q E) : t_Moment_do K N (Eo Q) (start nm_Moment_do vs) H := by
  obtain ⟨m, d, own, M, D, n, r, k, rfl, ma, ed, ok, hk, wf, q⟩ := h
  obtain ⟨dm, a, hl, rfl, sa, ra, eh⟩ := ma
  obtain ⟨p1, s1⟩ := T.s_Moment_now_rule
  obtain ⟨p2, s2⟩ := T.s_Moment_now_text
  obtain ⟨p3, s3⟩ := T.s_Moment_now_held
  obtain ⟨p4, s4⟩ := T.s_Moment_now_beats
  have neRM := T.neRM
  have np : ∀ {us : List (Option V)}, ¬ Prm N (SlO m N.Moment dm us) := not_prm_slo (Ne.symm neRM)
  have hl' := ok.len
  have n0 := ok.n0
  have n1 := ok.n1
  have hne : M.t ≠ [] := fun z => by rw [z] at hl'; simp at hl'; omega
  have hm1 : hl ≠ m := ne_of eh sa.at_ (fun z => slO_lst z.symm)
  have hm2 : hl ≠ dm := ne_of eh sa.dx (fun z => by cases z)
  -- word, told = deed[0], deed[1]
  obtain ⟨tv, htv⟩ : ∃ tv, atI (dV D) 1 = some tv := by cases D <;> exact ⟨_, rfl⟩
  refine ⟨_, rfl, d, _, _, _, rfl, rfl, .of ed, dV_0 D, _, rfl, d, _, _, _, rfl, rfl, .of ed, htv, by show 2 ≤ sizeLine; decide, fun tp htp => ?_⟩
  have k1 : Kp N [m, dm, hl] H (upd H tp (.tup [.str (S (dW D)), tv])) := Kp.refl.new htp
  have kk : Kp N [] H (upd H tp (.tup [.str (S (dW D)), tv])) := Kp.refl.new htp
  have sa1 := sa.keep kk (by simp)
  have ra1 := ra.keep kk
  have eh1 := kk _ _ eh (.inl (by simp))
  have ed1 := kk _ _ ed (.inl (by simp))
  refine ⟨tp, _, rfl, .of upd_same, rfl, _, _, rfl, _, _, rfl, rfl, ?_⟩
  generalize upd H tp (.tup [.str (S (dW D)), tv]) = H1 at *
  refine ⟨_, rfl, _, _, rfl, rfl, _, rfl, ?_⟩
  cases D with
  | beats j =>
    cases htv
    have wj : 1 ≤ j ∧ j ≤ 50 := wf
    refine if_t (by first | decide | simp [dW]) ⟨_, rfl, j, rfl, by omega, by omega, ?_⟩
    have em : ((j : Nat) : Int).toNat = j := by omega
    rw [em]
    refine for_range (fun i σ H' => ∃ v, σ = [some (.ref m), some (.ref d), some (.str (S (dW (.beats j)))), some (.int j), v, none, none] ∧ SlA H' m N.Moment dm [some (.int M.bt), some (.ref hl), some (.ref a), some (.str (S (itr (hBeat M.tab M.r M.hs) i M.t)))] ∧ Kp N [m] H1 H') ⟨none, rfl, sa1, Kp.refl⟩ ?_ ?_
    · rintro i σ H2 hi ⟨v, rfl, sb, k2⟩
      refine ⟨_, rfl, m, _, dm, p1, _, 2, _, rfl, sb.slt, T.c_Moment, s1, rfl, _, rfl, m, _, dm, p2, _, 3, _, rfl, sb.slt, T.c_Moment, s2, rfl, _, rfl, m, _, dm, p3, _, 1, _, rfl, sb.slt, T.c_Moment, s3, rfl, ?_⟩
      refine ⟨a, M.tab, M.r, _, hl, M.hs, rfl, ra1.keep k2, k2 _ _ eh1 (.inl (by simp [hm1])), ok.tab, by rw [ok.rr]; exact ok.r2, ?_, ?_, ?_, fun H3 k3 => ?_⟩
      · intro z
        have := congrArg List.length z
        rw [itr_hBeat_length] at this
        exact hne (List.length_eq_zero_iff.mp this)
      · rw [itr_hBeat_length]; omega
      · rw [ok.rr]; exact itr_hBeat_ok ok.tab ok.ok i
      · have sc := sb.keep k3 (by simp)
        refine ⟨_, rfl, m, _, dm, p2, _, 3, rfl, sc.slt, T.c_Moment, s2, _, rfl, slA_put (Ne.symm sc.ne), ?_⟩
        exact (k2.trans k3 (m := [m]) (fun _ h => .inl h) (fun _ h => absurd h (by simp))).slA sc np (.inl (by simp))
    · rintro σ H2 ⟨v, rfl, sb, k2⟩
      refine ⟨_, rfl, m, _, dm, p4, _, 0, _, rfl, sb.slt, T.c_Moment, s4, rfl, _, rfl, _, _, rfl, rfl, _, sb.slt, ?_⟩
      have k3 := k2.slA (vs := putS 0 (.int (M.bt + j)) [some (.int M.bt), some (.ref hl), some (.ref a), some (.str (S (itr (hBeat M.tab M.r M.hs) j M.t)))]) sb np (.inl (by simp))
      refine q _ [m, dm, hl] ⟨dm, a, hl, rfl, slA_put (Ne.symm sb.ne), ra1.keep k3, ?_⟩ (k1.then (k3.mono fun x hx => .inl (by simp at hx; simp [hx]))) Grow.refl
      rw [SlX.slH_ne hm1 hm2]
      exact k2 _ _ eh1 (.inl (by simp [hm1]))
  | seat i c =>
    cases htv
    have wi : i < n ∧ 48 ≤ c ∧ c ≤ 49 + r := wf
    refine if_f (by first | decide | simp [dW]) ⟨_, rfl, _, _, rfl, rfl, _, rfl, if_t (by first | decide | simp [dW]) ?_⟩
    refine ⟨_, rfl, m, _, dm, p2, _, 3, _, rfl, sa1.slt, T.c_Moment, s2, rfl, _, rfl, _, rfl, _, rfl, by omega, ?_⟩
    rw [cutL_to _ (by omega)]
    refine ⟨_, rfl, d, _, _, _, rfl, rfl, .of ed1, rfl, _, _, rfl, rfl, by simp; omega, ?_⟩
    refine ⟨_, rfl, m, _, dm, p2, _, 3, _, rfl, sa1.slt, T.c_Moment, s2, rfl, _, rfl, _, _, rfl, rfl, _, rfl, _, rfl, by omega, ?_⟩
    rw [cutL_from _ (by omega)]
    refine ⟨_, _, rfl, rfl, by simp; omega, _, rfl, m, _, dm, p2, _, 3, rfl, sa1.slt, T.c_Moment, s2, ?_⟩
    have e1 : ((i : Nat) : Int).toNat = i := by omega
    have e2 : ((i : Nat) + 1 : Int).toNat = i + 1 := by omega
    rw [e1, e2]
    have k3 := k1.slA (vs := putS 3 (.str (S (M.t.take i ++ [c] ++ M.t.drop (i + 1)))) [some (.int M.bt), some (.ref hl), some (.ref a), some (.str (S M.t))]) sa1 np (.inl (by simp))
    refine q _ [m, dm, hl] ⟨dm, a, hl, rfl, slA_put (Ne.symm sa.ne), ra.keep k3, ?_⟩ k3 Grow.refl
    rw [SlX.slH_ne hm1 hm2]
    exact eh1
  | turn p =>
    cases htv
    refine if_f (by first | decide | simp [dW]) ⟨_, rfl, _, _, rfl, rfl, _, rfl, if_f (by first | decide | simp [dW]) ⟨_, rfl, _, _, rfl, rfl, _, rfl, if_t (by first | decide | simp [dW]) ?_⟩⟩
    refine ⟨_, rfl, m, _, dm, p2, _, 3, _, rfl, sa1.slt, T.c_Moment, s2, rfl, _, rfl, by omega, ?_⟩
    refine ⟨_, rfl, m, _, dm, p2, _, 3, _, rfl, sa1.slt, T.c_Moment, s2, rfl, _, rfl, M.t, p, rfl, hne, by omega, _, rfl, m, _, dm, p2, _, 3, rfl, sa1.slt, T.c_Moment, s2, ?_⟩
    have k3 : Kp N [m] H1 (slH H1 m N.Moment dm [some (.int M.bt), some (.ref hl), some (.ref a), some (.str (S (turned M.t p)))]) := Kp.refl.slA sa1 np (.inl (by simp))
    have sb : SlA (slH H1 m N.Moment dm [some (.int M.bt), some (.ref hl), some (.ref a), some (.str (S (turned M.t p)))]) m N.Moment dm [some (.int M.bt), some (.ref hl), some (.ref a), some (.str (S (turned M.t p)))] := slA_put (Ne.symm sa.ne)
    have eh3 := k3 _ _ eh1 (.inl (by simp [hm1]))
    generalize hH3 : slH H1 m N.Moment dm [some (.int M.bt), some (.ref hl), some (.ref a), some (.str (S (turned M.t p)))] = H3 at *
    have hH3' : slH H1 m N.Moment dm (putS 3 (V.str (S (turned M.t p))) [some (.int M.bt), some (.ref hl), some (.ref a), some (.str (S M.t))]) = H3 := hH3
    rw [hH3']
    refine ⟨_, rfl, m, _, dm, p3, _, 1, _, rfl, sb.slt, T.c_Moment, s3, rfl, hl, rfl, ⟨_, .of eh3⟩, fun L hL => ?_⟩
    refine lc_acc walk_list (fun i acc H' => acc = ((M.hs.take i).map fun s => V.int ((s + p) % (M.t.length : Int))) ∧ Kp N [] H3 H') (by rw [List.length_map]; have := ok.hl; omega) ⟨rfl, Kp.refl.new hL⟩ (fun i acc H' r => by rw [r.1]; simp; omega) (fun i acc H' _ _ r => .of (r.2 _ _ eh3 (.inl (by simp)))) ?_ ?_
    · rintro i x acc H4 H' hi e2 z ⟨rfl, k4⟩ ⟨rfl, hx⟩
      obtain ⟨s, hs1, rfl⟩ := int_at hx
      refine ⟨rfl, _, rfl, _, rfl, _, _, rfl, rfl, _, rfl, _, _, rfl, rfl, by omega, LcN.add e2 z ⟨?_, k4.put hL⟩⟩
      rw [List.take_add_one, hs1]
      simp
    · rintro acc H4 e4 ⟨rfl, k4⟩
      rw [List.length_map, List.take_of_length_le (Nat.le_refl _)] at e4
      refine ⟨L, hTurn M.t.length p M.hs, rfl, .of (by rw [e4]; unfold hTurn; rw [List.map_map]; rfl), fun ns' q1 hp hs hq1 => ?_⟩
      have e := srt_uniq hp hs
      subst e
      have k5 : Kp N [] H3 (upd H4 q1 (.lst ((srt (hTurn M.t.length p M.hs)).map V.int))) := k4.new hq1
      have sc := sb.keep k5 (by simp)
      refine ⟨_, rfl, m, _, dm, p3, _, 1, rfl, sc.slt, T.c_Moment, s3, ?_⟩
      have k6 : Kp N [m, dm, hl] H (upd H4 q1 (.lst ((srt (hTurn M.t.length p M.hs)).map V.int))) := (k1.then (k3.mono fun x hx => .inl (by simp at hx; simp [hx]))).then k5.up
      have k7 := k6.slA (vs := putS 1 (.ref q1) [some (.int M.bt), some (.ref hl), some (.ref a), some (.str (S (turned M.t p)))]) sc np (.inl (by simp))
      have hq2 : q1 ≠ m := Ne.symm (ne_of_none (k4 _ _ sb.at_ (.inl (by simp))) hq1)
      have hq3 : q1 ≠ dm := Ne.symm (ne_of_none (k4 _ _ sb.dx (.inl (by simp))) hq1)
      refine q _ [m, dm, q1] ⟨dm, a, q1, rfl, slA_put (Ne.symm sa.ne), ra.keep k7, ?_⟩ k7 fun b hb => ?_
      · rw [SlX.slH_ne hq2 hq3]; exact upd_same
      · simp only [List.mem_cons, List.not_mem_nil, or_false] at hb
        rcases hb with rfl | rfl | rfl
        · exact .inl (by simp)
        · exact .inl (by simp)
        · have k8 : Kp N [m, dm, hl] H H4 := (k1.then (k3.mono fun x hx => .inl (by simp at hx; simp [hx]))).then k4.up
          exact (k8.fresh hq1).symm
  | table tb =>
    cases htv
    refine if_f (by first | decide | simp [dW]) ⟨_, rfl, _, _, rfl, rfl, _, rfl, if_f (by first | decide | simp [dW]) ⟨_, rfl, _, _, rfl, rfl, _, rfl, if_f (by first | decide | simp [dW]) ⟨_, rfl, _, _, rfl, rfl, _, rfl, if_t (by first | decide | simp [dW]) ?_⟩⟩⟩
    obtain ⟨dr, er⟩ := id ra1
    refine ⟨_, rfl, _, rfl, m, _, dm, p1, _, 2, _, rfl, sa1.slt, T.c_Moment, s1, rfl, a, dr, _, rfl, er.slt, a, _, _, rfl, ra1, fun x dx hx hdx hne2 => ?_⟩
    have k2 := (Kp.refl (N := N) (l := []) (H := H1)).made (C := N.Rule) hx hdx hne2
    refine ⟨x, dx, tb, M.r, rfl, wf, by rw [ok.rr]; exact ok.r2, newA_made hne2, fun H3 s3' k3 => ⟨rfl, ?_⟩⟩
    have k4 : Kp N [] H1 H3 := k2.trans k3 (fun _ h => absurd h (by simp)) fun b hb => by
      simp only [List.mem_cons, List.not_mem_nil, or_false] at hb
      rcases hb with rfl | rfl
      · exact .inr hx
      · exact .inr hdx
    have sc := sa1.keep k4 (by simp)
    refine ⟨_, rfl, m, _, dm, p1, _, 2, rfl, sc.slt, T.c_Moment, s1, ?_⟩
    have k5 := (k1.then k4.up).slA (vs := putS 2 (.ref x) [some (.int M.bt), some (.ref hl), some (.ref a), some (.str (S M.t))]) sc np (.inl (by simp))
    have k6 : Kp N [m] H3 (slH H3 m N.Moment dm (putS 2 (.ref x) [some (.int M.bt), some (.ref hl), some (.ref a), some (.str (S M.t))])) := Kp.refl.slA sc np (.inl (by simp))
    refine q _ [m, dm, hl] ⟨dm, x, hl, rfl, slA_put (Ne.symm sa.ne), RuleAt.keep ⟨dx, s3'⟩ k6, ?_⟩ k5 Grow.refl
    rw [SlX.slH_ne hm1 hm2]
    exact k4 _ _ eh1 (.inl (by simp))
  | hold i =>
    cases htv
    refine if_f (by first | decide | simp [dW]) ⟨_, rfl, _, _, rfl, rfl, _, rfl, if_f (by first | decide | simp [dW]) ⟨_, rfl, _, _, rfl, rfl, _, rfl, if_f (by first | decide | simp [dW]) ⟨_, rfl, _, _, rfl, rfl, _, rfl, if_f (by first | decide | simp [dW]) ⟨_, rfl, _, _, rfl, rfl, _, rfl, if_t (by first | decide | simp [dW]) ?_⟩⟩⟩⟩
    refine ⟨_, rfl, m, _, dm, p3, _, 1, _, rfl, sa1.slt, T.c_Moment, s3, rfl, hl, _, rfl, .inr (.of eh1), _, rfl, size_le (by simp; have := ok.hl; omega), fun L hL => ?_⟩
    have k2 : Kp N [] H1 (upd H1 L (.lst (M.hs.map V.int ++ [V.int i]))) := Kp.refl.new hL
    refine ⟨L, M.hs ++ [(i : Int)], rfl, .of (by rw [List.map_append]; exact upd_same), fun ns' q1 hp hs hq1 => ?_⟩
    have e := srt_uniq hp hs
    subst e
    have k5 : Kp N [] H1 (upd (upd H1 L (.lst (M.hs.map V.int ++ [V.int i]))) q1 (.lst ((srt (M.hs ++ [(i : Int)])).map V.int))) := k2.new hq1
    have sc := sa1.keep k5 (by simp)
    refine ⟨_, rfl, m, _, dm, p3, _, 1, rfl, sc.slt, T.c_Moment, s3, ?_⟩
    have k7 := (k1.then k5.up).slA (vs := putS 1 (.ref q1) [some (.int M.bt), some (.ref hl), some (.ref a), some (.str (S M.t))]) sc np (.inl (by simp))
    have hq2 : q1 ≠ m := Ne.symm (ne_of_none (k2 _ _ sa1.at_ (.inl (by simp))) hq1)
    have hq3 : q1 ≠ dm := Ne.symm (ne_of_none (k2 _ _ sa1.dx (.inl (by simp))) hq1)
    refine q _ [m, dm, q1] ⟨dm, a, q1, rfl, slA_put (Ne.symm sa.ne), ra.keep k7, ?_⟩ k7 fun b hb => ?_
    · rw [SlX.slH_ne hq2 hq3]; exact upd_same
    · simp only [List.mem_cons, List.not_mem_nil, or_false] at hb
      rcases hb with rfl | rfl | rfl
      · exact .inl (by simp)
      · exact .inl (by simp)
      · exact ((k1.then k2.up).fresh hq1).symm
  | free i =>
    cases htv
    refine if_f (by first | decide | simp [dW]) ⟨_, rfl, _, _, rfl, rfl, _, rfl, if_f (by first | decide | simp [dW]) ⟨_, rfl, _, _, rfl, rfl, _, rfl, if_f (by first | decide | simp [dW]) ⟨_, rfl, _, _, rfl, rfl, _, rfl, if_f (by first | decide | simp [dW]) ⟨_, rfl, _, _, rfl, rfl, _, rfl, if_f (by first | decide | simp [dW]) ?_⟩⟩⟩⟩
    refine ⟨_, rfl, m, _, dm, p3, _, 1, _, rfl, sa1.slt, T.c_Moment, s3, rfl, hl, rfl, ⟨_, .of eh1⟩, fun L hL => ?_⟩
    refine lc_acc walk_list (fun j acc H' => acc = (((M.hs.take j).filter fun s => !decide (s = (i : Int))).map V.int) ∧ Kp N [] H1 H') (by rw [List.length_map]; have := ok.hl; omega) ⟨rfl, Kp.refl.new hL⟩ (fun j acc H' r => by rw [r.1, List.length_map]; exact Nat.le_trans (List.length_filter_le _ _) (by simp; omega)) (fun j acc H' _ _ r => .of (r.2 _ _ eh1 (.inl (by simp)))) ?_ ?_
    · rintro j x acc H4 H' hi e2 z ⟨rfl, k4⟩ ⟨rfl, hx⟩
      obtain ⟨s, hs1, rfl⟩ := int_at hx
      refine ⟨rfl, _, rfl, _, rfl, s, _, rfl, rfl, _, rfl, ?_⟩
      by_cases c : s = (i : Int)
      · refine if_f (by simp [c]) ⟨_, e2, ?_, k4⟩
        rw [List.take_add_one, hs1, List.filter_append]
        simp [c]
      · refine if_t (by simp [c]) ⟨_, rfl, LcN.add e2 z ⟨?_, k4.put hL⟩⟩
        rw [List.take_add_one, hs1, List.filter_append]
        simp [c]
    · rintro acc H4 e4 ⟨rfl, k4⟩
      rw [List.length_map, List.take_of_length_le (Nat.le_refl _)] at e4
      have sc := sa1.keep k4 (by simp)
      refine ⟨_, rfl, m, _, dm, p3, _, 1, rfl, sc.slt, T.c_Moment, s3, ?_⟩
      have k7 := (k1.then k4.up).slA (vs := putS 1 (.ref L) [some (.int M.bt), some (.ref hl), some (.ref a), some (.str (S M.t))]) sc np (.inl (by simp))
      have hq2 : L ≠ m := Ne.symm (ne_of_none sa1.at_ hL)
      have hq3 : L ≠ dm := Ne.symm (ne_of_none sa1.dx hL)
      refine q _ [m, dm, L] ⟨dm, a, L, rfl, slA_put (Ne.symm sa.ne), ra.keep k7, ?_⟩ k7 fun b hb => ?_
      · rw [SlX.slH_ne hq2 hq3]; exact e4
      · simp only [List.mem_cons, List.not_mem_nil, or_false] at hb
        rcases hb with rfl | rfl | rfl
        · exact .inl (by simp)
        · exact .inl (by simp)
        · exact (k1.fresh hL).symm
theorem ok_Moment_do (T : Txt K w mg N) : FnR Pw w K mg base CX0 9 N.Moment_do (sp_Moment_do K N) := by
  obtain ⟨fd, F, b⟩ := T.d_Moment_do
  exact mk_fn F b sc_Moment_do (fun vs H Q E h => by (repeat (first | (obtain ⟨rfl, _⟩ := h; rfl) | (obtain ⟨_, h⟩ := h)))) fun cdv A outer s H vs Q E hr h => ⟨t_Moment_do K N, (PSs.nox (by exact (pss_cons (ps_asg (pe_tup (pa_cons (pe_ix ix_tup (pv 1) pe_int (fun _ _ => rfl)) (pa_cons (pe_ix ix_tup (pv 1) pe_int (fun _ _ => rfl)) pa_nil))) (pg_tup rfl (pgs_cons (pg_name (i := 2) sc_Moment_do.nd rfl (Or.inl rfl)) (pgs_cons (pg_name (i := 3) sc_Moment_do.nd rfl (Or.inr rfl)) pgs_nil))))
 (pss_one (ps_if (pt_cmpR op_eqX (pv 2) (pe_lit (l := [98, 101, 97, 116, 115]) (by decide +kernel)) (nomark _)) (pss_cons (ps_for PassesOwn.never rfl (pi_range1 rfl T.n_range (pa_cons (pv 3) pa_nil)) (pg_name (i := 4) sc_Moment_do.nd rfl (Or.inl rfl))
 (pss_one (SlX.ps_sl (pv 0) (pe_cl (ok_held_beat T) (hr.mono (by decide)) rfl T.g_held_beat T.k_held_beat pass0 (pa_cons (SlX.pe_sl (pv 0)) (pa_cons (SlX.pe_sl (pv 0)) (pa_cons (SlX.pe_sl (pv 0)) pa_nil)))))))
 (pss_one (ps_slaug (pv 0) (pv 3) in_add))) (pss_one (ps_if (pt_cmpR op_eqX (pv 2) (pe_lit (l := [115, 101, 97, 116]) (by decide +kernel)) (nomark _)) (pss_one (SlX.ps_sl (pv 0) (pe_op op_catX (pe_op op_catX (pe_slice sl_x (SlX.pe_sl (pv 0)) po_none (po_some (pv 3))) (pe_ix ix_tup (pv 1) pe_int (fun _ _ => rfl))) (pe_slice sl_x (SlX.pe_sl (pv 0)) (po_some (pe_op op_add (pv 3) pe_int)) po_none)))) (pss_one (ps_if (pt_cmpR op_eqX (pv 2) (pe_lit (l := [116, 117, 114, 110]) (by decide +kernel)) (nomark _)) (pss_cons (ps_set (i := 5) sc_Moment_do.nd rfl (Or.inr rfl) (pe_callB call_lenX rfl T.n_len bt_len (pa_cons (SlX.pe_sl (pv 0)) pa_nil)))
 (pss_cons (SlX.ps_sl (pv 0) (pe_cl (ok_turned_by T) (hr.mono (by decide)) rfl T.g_turned_by T.k_turned_by pass0 (pa_cons (SlX.pe_sl (pv 0)) (pa_cons (pv 3) pa_nil))))
 (pss_one (SlX.ps_sl (pv 0) (pe_callB cr_sortedI rfl T.n_sorted bt_sorted (pa_cons (pe_lc (own := [(("seat" : Str), 6)]) (g := (gName 6)) (tt := tYes) rfl sc_Moment_do.nd (pi_list (SlX.pe_sl (pv 0))) (blkOk_by (N := nm_Moment_do) (sc := defScope s_Moment_do) (by decide +kernel)) (fun _ _ _ _ _ => (pg_name (i := 6) sc_Moment_do.nd rfl (Or.inl rfl))) (fun _ _ _ _ _ => pts_nil) (fun _ _ _ _ _ => (pe_op op_mod (pe_op op_add (pv 6) (pv 3)) (pv 5)))) pa_nil)))))) (pss_one (ps_if (pt_cmpR op_eqX (pv 2) (pe_lit (l := [116, 97, 98, 108, 101]) (by decide +kernel)) (nomark _)) (pss_one (SlX.ps_sl (pv 0) (StX.pe_makeR T.mk_Rule (ok_Rule_init T) (hr.mono (by decide)) rfl T.g_Rule pass0 (pa_cons (pv 3) (pa_cons (SlX.pe_propSl (SlX.pe_sl (pv 0)) T.c_Rule T.p_Rule_rests.at_ T.p_Rule_rests.get T.p_Rule_rests.tak T.p_Rule_rests.rec_ (ok_Rule_rests T) (hr.mono (by decide)) (fun _ _ _ _ z => z)) pa_nil))))) (pss_one (ps_if (pt_cmpR op_eqX (pv 2) (pe_lit (l := [104, 111, 108, 100]) (by decide +kernel)) (nomark _)) (pss_one (SlX.ps_sl (pv 0) (pe_callB cr_sortedI rfl T.n_sorted bt_sorted (pa_cons (pe_lst (StX.pa_star (SlX.pe_sl (pv 0)) (pa_cons (pv 3) pa_nil))) pa_nil)))) (pss_one (SlX.ps_sl (pv 0) (pe_lc (own := [(("seat" : Str), 6)]) (g := (gName 6)) (tt := (tTest (tOp rNeI (tVar 6) (tVar 3)))) rfl sc_Moment_do.nd (pi_list (SlX.pe_sl (pv 0))) (blkOk_by (N := nm_Moment_do) (sc := defScope s_Moment_do) (by decide +kernel)) (fun _ _ _ _ _ => (pg_name (i := 6) sc_Moment_do.nd rfl (Or.inl rfl))) (fun _ _ _ _ _ => (pts_one (pt_cmpR op_neI (pv 6) (pv 3) (nomark _)))) (fun _ _ _ _ _ => (pv 6)))))))))))))))))), pure_Moment_do T vs H Q E h⟩
end
end Sw
namespace Sw
open PySem PySem.Spec PyProof.Rows L2
open SX (S S_cat S_len S_inj)
/-! # data: deeds, lists of deeds, what is shown -/
def deedD : Deed → PyData
  | .beats k => .tuple [.str (S W0), .int k]
  | .seat i c => .tuple [.str (S W1), .int i, .str (S [c])]
  | .turn p => .tuple [.str (S W2), .int p]
  | .table tb => .tuple [.str (S W3), .str (S tb)]
  | .hold i => .tuple [.str (S W4), .int i]
  | .free i => .tuple [.str (S W5), .int i]
theorem beqS {a b : List Nat} : (S a == S b) = decide (a = b) := SX.S_beq_eq
theorem beqI {i j : Int} : (i == j) = decide (i = j) := by
  by_cases h : i = j <;> simp [h]
theorem castN {i j : Nat} : ((i : Int) = (j : Int)) ↔ i = j := Int.ofNat_inj
theorem eqv_deed (d e : Deed) : PyData.eqv (deedD d) (deedD e) = decide (d = e) := by
  cases d <;> cases e <;> simp [deedD, PyData.eqv, PyData.eqvAll, beqS, beqI, W0, W1, W2, W3, W4, W5, castN]
theorem eqvAll_deeds : ∀ ds es : List Deed, PyData.eqvAll (ds.map deedD) (es.map deedD) = decide (ds = es)
  | [], [] => by simp [PyData.eqvAll]
  | [], _ :: _ => by simp [PyData.eqvAll]
  | _ :: _, [] => by simp [PyData.eqvAll]
  | d :: ds, e :: es => by
    rw [List.map_cons, List.map_cons, PyData.eqvAll, eqv_deed, eqvAll_deeds ds es]
    by_cases h : d = e
    · by_cases g : ds = es <;> simp [h, g]
    · simp [h]
theorem eqv_deeds (ds es : List Deed) : PyData.eqv (.list (ds.map deedD)) (.list (es.map deedD)) = decide (ds = es) := by
  rw [PyData.eqv, eqvAll_deeds]
/-! ## data at an address -/
theorem dp_deed {K : PySem.W.Frag} {H : Hp} {a : Addr} {d : Deed} (e : H a = some (.tup (dV d))) : Dp K H (.ref a) (deedD d) := by
  refine (?_ : Dp K H (.ref a) (deedD d))
  cases d with
  | beats k => exact .tup (.of e) (.cons (.str _) (.cons (.int _) .nil))
  | seat i c => exact .tup (.of e) (.cons (.str _) (.cons (.int _) (.cons (.str _) .nil)))
  | turn p => exact .tup (.of e) (.cons (.str _) (.cons (.int _) .nil))
  | table tb => exact .tup (.of e) (.cons (.str _) (.cons (.str _) .nil))
  | hold i => exact .tup (.of e) (.cons (.str _) (.cons (.int _) .nil))
  | free i => exact .tup (.of e) (.cons (.str _) (.cons (.int _) .nil))
theorem dp_deeds {K : PySem.W.Frag} {H : Hp} {vs : List V} {ds : List Deed} (h : DeedsV H vs ds) : DpAll K H vs (ds.map deedD) := by
  obtain ⟨L, rfl, e2, rfl⟩ := h
  induction L with
  | nil => exact .nil
  | cons p L ih => exact .cons (dp_deed (e2 p (by simp))) (ih fun q hq => e2 q (by simp [hq]))
theorem dp_ints {K : PySem.W.Frag} {H : Hp} : ∀ hs : List Int, DpAll K H (hs.map V.int) (hs.map PyData.int)
  | [] => .nil
  | i :: hs => .cons (.int i) (dp_ints hs)
theorem eqvAll_ints : ∀ xs ys : List Int, PyData.eqvAll (xs.map PyData.int) (ys.map PyData.int) = decide (xs = ys)
  | [], [] => by simp [PyData.eqvAll]
  | [], _ :: _ => by simp [PyData.eqvAll]
  | _ :: _, [] => by simp [PyData.eqvAll]
  | d :: ds, e :: es => by
    rw [List.map_cons, List.map_cons, PyData.eqvAll, eqvAll_ints ds es, PyData.eqv, beqI]
    by_cases h : d = e
    · by_cases g : ds = es <;> simp [h, g]
    · simp [h]
/-! ## data that may be shown -/
structure Nice (n dp : Nat) (d : PyData) : Prop where
  lay : d.canLay0 = true
  depth : d.depth ≤ dp
  show_ : d.showable = true
  leaf : d.leavesShort 50 = true
  bulk : d.bulk ≤ n
structure NiceAll (n dp : Nat) (ds : List PyData) : Prop where
  lay : PyData.canLayAll0 ds = true
  depth : PyData.depthAll ds ≤ dp
  show_ : PyData.showableAll ds = true
  leaf : PyData.leavesShortAll 50 ds = true
  bulk : PyData.bulkAll ds ≤ n
theorem Nice.mono {n n' dp dp' : Nat} {d : PyData} (h : Nice n dp d) (h1 : n ≤ n') (h2 : dp ≤ dp') : Nice n' dp' d := ⟨h.lay, Nat.le_trans h.depth h2, h.show_, h.leaf, Nat.le_trans h.bulk h1⟩
theorem Nice.non : Nice 0 0 .none := ⟨rfl, by simp [PyData.depth], rfl, rfl, by simp [PyData.bulk]⟩
theorem Nice.bool {b : Bool} : Nice 0 0 (.bool b) := ⟨rfl, by simp [PyData.depth], rfl, rfl, by simp [PyData.bulk]⟩
theorem Nice.int {i : Int} (h : i.natAbs < 10 ^ 45) : Nice 0 0 (.int i) := by
  refine ⟨rfl, by simp [PyData.depth], ?_, ?_, by simp [PyData.bulk]⟩
  · simp only [PyData.showable, decide_eq_true_eq]
    by_cases h0 : i.natAbs = 0
    · rw [h0]; decide
    · refine (Nat.log2_lt h0).mpr (Nat.lt_trans h ?_)
      exact Nat.lt_of_lt_of_le (by decide : 10 ^ 45 < 2 ^ 200) (Nat.pow_le_pow_right (by decide) (by decide))
  · simp only [PyData.leavesShort, decide_eq_true_eq]
    have := int_text_length_le10 (a := i) (k := 45) (by decide) h
    show (Str.ofString (toString i)).length ≤ 50
    rw [PySem.ofString_length]
    omega
theorem Nice.str {a : List Nat} {n : Nat} (h : ∀ c ∈ a, c < 1000) (hl : a.length ≤ n) : Nice n 0 (.str (S a)) := by
  refine ⟨?_, by simp [PyData.depth], rfl, ?_, ?_⟩
  · simp only [PyData.canLay0]
    show a.toArray.all (fun x => decide (x < 1114112)) = true
    rw [← Array.all_toList]
    exact List.all_eq_true.mpr fun c hc => decide_eq_true (by have := h c hc; omega)
  · simp only [PyData.leavesShort]
    exact List.all_eq_true.mpr fun c hc => decide_eq_true (by have := h c hc; exact Nat.lt_trans this (by decide))
  · simp only [PyData.bulk]
    show a.toArray.size ≤ n
    simpa using hl
theorem NiceAll.nil {dp : Nat} : NiceAll 0 dp [] := ⟨rfl, by simp [PyData.depthAll], rfl, rfl, by simp [PyData.bulkAll]⟩
theorem NiceAll.cons {n m dp : Nat} {d : PyData} {ds : List PyData} (h : Nice n dp d) (g : NiceAll m dp ds) : NiceAll (n + 1 + m) dp (d :: ds) := by
  refine ⟨?_, ?_, ?_, ?_, ?_⟩
  · simp [PyData.canLayAll0, h.lay, g.lay]
  · simp only [PyData.depthAll]; exact Nat.max_le.mpr ⟨h.depth, g.depth⟩
  · simp [PyData.showableAll, h.show_, g.show_]
  · simp [PyData.leavesShortAll, h.leaf, g.leaf]
  · simp only [PyData.bulkAll]; have := h.bulk; have := g.bulk; omega
theorem NiceAll.list {n dp : Nat} {ds : List PyData} (h : NiceAll n dp ds) : Nice n (dp + 1) (.list ds) :=
  ⟨by simp only [PyData.canLay0]; exact h.lay, by simp only [PyData.depth]; exact Nat.succ_le_succ h.depth, by simp only [PyData.showable]; exact h.show_, by simp only [PyData.leavesShort]; exact h.leaf, by simp only [PyData.bulk]; exact h.bulk⟩
theorem NiceAll.tup {n dp : Nat} {ds : List PyData} (h : NiceAll n dp ds) : Nice n (dp + 1) (.tuple ds) :=
  ⟨by simp only [PyData.canLay0]; exact h.lay, by simp only [PyData.depth]; exact Nat.succ_le_succ h.depth, by simp only [PyData.showable]; exact h.show_, by simp only [PyData.leavesShort]; exact h.leaf, by simp only [PyData.bulk]; exact h.bulk⟩
theorem NiceAll.of {n dp : Nat} : ∀ {ds : List PyData}, (∀ d ∈ ds, Nice n dp d) → NiceAll (ds.length * (n + 1)) dp ds
  | [], _ => by simpa using NiceAll.nil
  | d :: ds, h => by
    have := NiceAll.cons (h d (by simp)) (NiceAll.of (ds := ds) fun x hx => h x (List.mem_cons_of_mem _ hx))
    rw [show (d :: ds).length * (n + 1) = n + 1 + ds.length * (n + 1) by rw [List.length_cons, Nat.succ_mul]; omega]
    exact this
theorem NiceAll.mono {n n' dp dp' : Nat} {d : List PyData} (h : NiceAll n dp d) (h1 : n ≤ n') (h2 : dp ≤ dp') : NiceAll n' dp' d := ⟨h.lay, Nat.le_trans h.depth h2, h.show_, h.leaf, Nat.le_trans h.bulk h1⟩
theorem Nice.noDict {n dp : Nat} {d : PyData} (h : Nice n dp d) : d.hasDict = false := PyData.hasDict_of_canLay d h.lay
theorem Nice.shaped {n dp : Nat} {d : PyData} (h : Nice n dp d) (hd : dp ≤ 60) : SeqAt.shaped d = true := by
  unfold SeqAt.shaped
  rw [h.lay, decide_eq_true (Nat.le_trans h.depth (Nat.le_trans hd (by decide)))]
  rfl
theorem Nice.fits {n dp : Nat} {d : PyData} (h : Nice n dp d) (hn : n ≤ 200000) : d.shown.length ≤ sizeLine := by
  have := PyData.shown_le_bulk 50 (by decide) d h.leaf
  have := h.bulk
  rw [sizeLine_eq]
  omega
theorem Nice.refl {n dp : Nat} {d : PyData} (h : Nice n dp d) : PyData.eqv d d = true := SeqAt.eqv_refl d h.lay
theorem w_lt : ∀ c ∈ W0 ++ W1 ++ W2 ++ W3 ++ W4 ++ W5, c < 1000 := by decide
theorem nice_deed {n r : Nat} {d : Deed} (hn : n ≤ 100) (hr : r ≤ 2) (w : Wf n r d) : Nice 20 1 (deedD d) := by
  cases d with
  | beats k =>
    have w' : 1 ≤ k ∧ k ≤ 50 := w
    exact (NiceAll.cons (Nice.str (n := 5) (by decide) (by decide)) (.cons (Nice.int (by omega)) .nil)).tup.mono (by decide) (by decide)
  | seat i c =>
    have w' : i < n ∧ 48 ≤ c ∧ c ≤ 49 + r := w
    exact (NiceAll.cons (Nice.str (n := 5) (by decide) (by decide)) (.cons (Nice.int (by omega)) (.cons (Nice.str (n := 1) (by intro x hx; rw [List.mem_singleton.mp hx]; omega) (by simp)) .nil))).tup.mono (by decide) (by decide)
  | turn p =>
    have w' : p.natAbs ≤ 10 ^ 39 := w
    exact (NiceAll.cons (Nice.str (n := 5) (by decide) (by decide)) (.cons (Nice.int (Nat.lt_of_le_of_lt w' (by decide))) .nil)).tup.mono (by decide) (by decide)
  | table tb =>
    have w' : OkTab tb := w
    exact (NiceAll.cons (Nice.str (n := 5) (by decide) (by decide)) (.cons (Nice.str (n := 4) (fun c hc => by rcases w'.2 c hc with z | z <;> omega) (by rw [w'.1]; decide)) .nil)).tup.mono (by decide) (by decide)
  | hold i =>
    have w' : i < n := w
    exact (NiceAll.cons (Nice.str (n := 5) (by decide) (by decide)) (.cons (Nice.int (by omega)) .nil)).tup.mono (by decide) (by decide)
  | free i =>
    have w' : i < n := w
    exact (NiceAll.cons (Nice.str (n := 5) (by decide) (by decide)) (.cons (Nice.int (by omega)) .nil)).tup.mono (by decide) (by decide)
theorem nice_deeds {n r : Nat} {ds : List Deed} (hn : n ≤ 100) (hr : r ≤ 2) (w : ∀ d ∈ ds, Wf n r d) : NiceAll (ds.length * 21) 1 (ds.map deedD) := by
  have := NiceAll.of (n := 20) (dp := 1) (ds := ds.map deedD) fun x hx => by
    obtain ⟨d, hd, rfl⟩ := List.mem_map.mp hx
    exact nice_deed hn hr (w d hd)
  rwa [List.length_map] at this
end Sw
namespace Sw
open PySem PySem.Spec PyProof.Rows L2
open SX (S S_cat S_len S_inj)
open SlX (SlO SlR putS slH)
/-- a game as the rules want it -/
structure GsOk (n r : Nat) (G : GS) : Prop where
  rr : G.r = r
  r2 : r ≤ 2
  tab : OkTab G.tab
  n0 : 1 ≤ n
  n1 : n ≤ 100
  len : G.t.length = n
  ok : OkT r G.t
  log : ∀ d ∈ G.log, Wf n r d
  gone : ∀ d ∈ G.gone, Wf n r d
  sz : G.log.length + G.gone.length ≤ 190
theorem GsOk.mom {n r : Nat} {G : GS} (h : GsOk n r G) : MomOk n r G.log.length G.mom := by
  have := replay_ok (mom0_ok h.tab (by rw [h.rr]; exact h.r2) h.n0 h.n1 h.len (by rw [h.rr]; exact h.ok) : MomOk n G.r 0 (mom0 G.tab G.r G.t)) (by rw [h.rr]; exact h.log)
  rw [Nat.zero_add, h.rr] at this
  unfold GS.mom
  rw [h.rr]
  exact this
theorem GsOk.ne {n r : Nat} {G : GS} (h : GsOk n r G) : G.t ≠ [] := fun z => by
  have := h.len
  have := h.n0
  rw [z] at *
  simp at *
  omega
section
variable {K : PySem.W.Frag} {w : World} {mg : Str → Option Value} {N : Nm} {base : Heap}
/-! ## Game -/
def sp_Game_init (K : PySem.W.Frag) (N : Nm) : Sp := fun vs H Q _ => ∃ (g dg a : Addr) (tab : List Nat) (r : Nat) (t : List Nat), vs = [.ref g, .ref a, .str (S t)] ∧ NewA H g N.Game dg ∧ RuleAt N H a tab r ∧ r ≤ 2 ∧ t ≠ [] ∧ t.length ≤ 100 ∧ OkT r t ∧
  ∀ H' own, GameAt N H' g own ⟨tab, r, t, [], []⟩ → Kp N [g, dg] H H' → (∀ b ∈ own, b = g ∨ b = dg ∨ H b = none) → Q .non H'
def t_Game_init (K : PySem.W.Frag) (N : Nm) : TS :=
 (tSeq (tIfS (tNot (tB (tCB (SlX.rIsiSl K (.ref N.Rule)) (tCons (tVar 1) (tCons (tC (.ref N.Rule)) tNil)))))
 tNever tNext)
 (tSeq (tIfS (tNot (tB (tCl (sp_is_stand K N) E0 (tCons (tVar 2) (tCons (SlX.tPropSl N.Rule (sp_Rule_signs K N) E0 (tVar 1)) tNil)))))
 tNever tNext)
 (tSeq (tAsg (tTup (tCons (tVar 1) (tCons (tVar 2) tNil))) (gTup K 2 (gCons (gSl K (tVar 0) "first_rule") (gCons (gSl K (tVar 0) "first_text") gNil))))
 (tAsg (tTup (tCons (tLst tNil) (tCons (tLst tNil) (tCons (StX.tMakeR N.Moment (sp_Moment_init K N) E0 (tCons (tVar 1) (tCons (tVar 2) tNil))) tNil)))) (gTup K 3 (gCons (gSl K (tVar 0) "its_log") (gCons (gSl K (tVar 0) "its_undone") (gCons (gSl K (tVar 0) "its_moment") gNil))))))))
theorem pure_Game_init (T : Txt K w mg N) (vs : List V) (H : Hp) (Q : VK) (E : XK) (h : sp_Game_init K N vs H Q E) : t_Game_init K N (Eo Q) (start nm_Game_init vs) H := by
  obtain ⟨g, dg, a, tab, r, t, rfl, new, ra, hr, hne, hl, okt, q⟩ := h
  obtain ⟨dr, er⟩ := id ra
  obtain ⟨p1, s1⟩ := T.s_Game_first_rule
  obtain ⟨p2, s2⟩ := T.s_Game_first_text
  obtain ⟨p3, s3⟩ := T.s_Game_its_log
  obtain ⟨p4, s4⟩ := T.s_Game_its_undone
  obtain ⟨p5, s5⟩ := T.s_Game_its_moment
  have neRG := T.neRG
  have np : ∀ {us : List (Option V)}, ¬ Prm N (SlO g N.Game dg us) := not_prm_slo (Ne.symm neRG)
  refine ⟨_, rfl, a, N.Rule, dr, _, _, true, rfl, rfl, fun w r => r, er.slt, T.c_Rule, T.si_Rule, T.kit_Rule, _, rfl, if_f rfl ?_⟩
  refine ⟨_, rfl, _, rfl, a, dr, _, rfl, er.slt, a, tab, r, rfl, ra, t, sgn r, rfl, by omega, hne, fun c hc => (mem_sgn hr).mpr (okt c hc), fun H1 k1 => ⟨_, rfl, if_f rfl ?_⟩⟩
  have n1 := new.keep k1 (by simp) (by simp)
  have kk1 : Kp N [g, dg] H H1 := k1.up
  -- first_rule, first_text
  refine ⟨_, rfl, _, rfl, by show 2 ≤ sizeLine; decide, fun tp htp => ?_⟩
  have kt : Kp N [] H1 (upd H1 tp (.tup [.ref a, .str (S t)])) := Kp.refl.new htp
  have n2 := n1.keep kt (by simp) (by simp)
  have kk2 := kk1.then kt.up
  refine ⟨tp, _, rfl, .of upd_same, rfl, ?_⟩
  generalize upd H1 tp (.tup [.ref a, .str (S t)]) = H2 at *
  refine ⟨_, _, rfl, _, rfl, g, _, dg, p1, _, 0, rfl, n2.slt, T.c_Game, s1, ?_⟩
  have a1 : SlA (slH H2 g N.Game dg (putS 0 (.ref a) [])) g N.Game dg [some (.ref a)] := slA_put n2.ne
  have kk3 : Kp N [g, dg] H (slH H2 g N.Game dg (putS 0 (.ref a) [])) := kk2.sl0 (vs := putS 0 (.ref a) []) n2 (.inl (by simp)) (.inl (by simp))
  generalize slH H2 g N.Game dg (putS 0 (.ref a) []) = H3 at *
  refine ⟨_, _, rfl, _, rfl, g, _, dg, p2, _, 1, rfl, a1.slt, T.c_Game, s2, rfl, ?_⟩
  have a2 : SlA (slH H3 g N.Game dg (putS 1 (.str (S t)) [some (.ref a)])) g N.Game dg [some (.ref a), some (.str (S t))] := slA_put (Ne.symm a1.ne)
  have kk4 := kk3.slA (vs := putS 1 (.str (S t)) [some (.ref a)]) a1 np (.inl (by simp))
  generalize slH H3 g N.Game dg (putS 1 (.str (S t)) [some (.ref a)]) = H4 at *
  -- the lists, the moment
  refine ⟨by show 0 ≤ sizeLine; decide, fun L hL => ?_⟩
  have kL : Kp N [] H4 (upd H4 L (.lst [])) := Kp.refl.new hL
  have eL : (upd H4 L (.lst [])) L = some (.lst []) := upd_same
  have gL : H L = none ∨ L ∈ [g, dg] := kk4.fresh hL
  have aL := a2.keep kL (by simp)
  have kk5 := kk4.then kL.up
  generalize upd H4 L (.lst []) = H5 at *
  refine ⟨by show 0 ≤ sizeLine; decide, fun U hU => ?_⟩
  have kU : Kp N [] H5 (upd H5 U (.lst [])) := Kp.refl.new hU
  have eU : (upd H5 U (.lst [])) U = some (.lst []) := upd_same
  have eL6 := kU _ _ eL (.inl (by simp))
  have hLU : L ≠ U := ne_of_none eL hU
  have gU : H U = none ∨ U ∈ [g, dg] := kk5.fresh hU
  have a6 := aL.keep kU (by simp)
  have kk6 := kk5.then kU.up
  generalize upd H5 U (.lst []) = H6 at *
  refine ⟨_, rfl, _, rfl, fun m dm hm hdm hne2 => ?_⟩
  have kM := (Kp.refl (N := N) (l := []) (H := H6)).made (C := N.Moment) hm hdm hne2
  have gm : H m = none ∨ m ∈ [g, dg] := kk6.fresh hm
  have gdm : H dm = none ∨ dm ∈ [g, dg] := kk6.fresh hdm
  have eL7 := kM _ _ eL6 (.inl (by simp))
  have eU7 := kM _ _ eU (.inl (by simp))
  have a7 := a6.keep kM (by simp)
  have kk7 := kk6.then kM.up
  have n7 := newA_made (H := H6) (C := N.Moment) hne2
  have gm_ne : g ≠ m := ne_of_none a6.at_ hm
  have gdm_ne : g ≠ dm := ne_of_none a6.at_ hdm
  have dgm_ne : dg ≠ m := ne_of_none a6.dx hm
  have dgdm_ne : dg ≠ dm := ne_of_none a6.dx hdm
  have Lm : L ≠ m := ne_of_none eL6 hm
  have Ldm : L ≠ dm := ne_of_none eL6 hdm
  have Um : U ≠ m := ne_of_none eU hm
  have Udm : U ≠ dm := ne_of_none eU hdm
  generalize upd (upd H6 dm (.own m)) m (.ins N.Moment dm []) = H7 at *
  refine ⟨m, dm, a, tab, r, t, rfl, n7, ra.keep kk7, fun H8 hl2 hhl mat k8 => ⟨rfl, ?_⟩⟩
  have a8 := a7.keep k8 (by simp [gm_ne, gdm_ne])
  have eL8 := k8 _ _ eL7 (.inl (by simp [Lm, Ldm]))
  have eU8 := k8 _ _ eU7 (.inl (by simp [Um, Udm]))
  have ghl : H hl2 = none ∨ hl2 ∈ [g, dg] := kk7.fresh hhl
  have g_hl : g ≠ hl2 := ne_of_none a7.at_ hhl
  have dg_hl : dg ≠ hl2 := ne_of_none a7.dx hhl
  have L_hl : L ≠ hl2 := ne_of_none eL7 hhl
  have U_hl : U ≠ hl2 := ne_of_none eU7 hhl
  have kk8 : Kp N [g, dg] H H8 := kk7.trans k8 (fun _ h => .inl h) fun b hb => by
    simp only [List.mem_cons, List.not_mem_nil, or_false] at hb
    rcases hb with rfl | rfl
    · exact gm.symm.imp (fun z => z) id
    · exact gdm.symm.imp (fun z => z) id
  refine ⟨by show 3 ≤ sizeLine; decide, fun tp2 htp2 => ?_⟩
  have kt2 : Kp N [] H8 (upd H8 tp2 (.tup [.ref L, .ref U, .ref m])) := Kp.refl.new htp2
  have a9 := a8.keep kt2 (by simp)
  have eL9 := kt2 _ _ eL8 (.inl (by simp))
  have eU9 := kt2 _ _ eU8 (.inl (by simp))
  have mat9 := mat.keep kt2 (by simp)
  have kk9 := kk8.then kt2.up
  refine ⟨tp2, _, rfl, .of upd_same, rfl, ?_⟩
  generalize upd H8 tp2 (.tup [.ref L, .ref U, .ref m]) = H9 at *
  refine ⟨_, _, rfl, _, rfl, g, _, dg, p3, _, 2, rfl, a9.slt, T.c_Game, s3, ?_⟩
  have a10 : SlA (slH H9 g N.Game dg (putS 2 (.ref L) [some (.ref a), some (.str (S t))])) g N.Game dg [some (.ref a), some (.str (S t)), some (.ref L)] := slA_put (Ne.symm a9.ne)
  have k10 : Kp N [g] H9 (slH H9 g N.Game dg (putS 2 (.ref L) [some (.ref a), some (.str (S t))])) := Kp.refl.slA a9 np (.inl (by simp))
  generalize slH H9 g N.Game dg (putS 2 (.ref L) [some (.ref a), some (.str (S t))]) = H10 at *
  refine ⟨_, _, rfl, _, rfl, g, _, dg, p4, _, 4, rfl, a10.slt, T.c_Game, s4, ?_⟩
  have a11 : SlA (slH H10 g N.Game dg (putS 4 (.ref U) [some (.ref a), some (.str (S t)), some (.ref L)])) g N.Game dg [some (.ref a), some (.str (S t)), some (.ref L), none, some (.ref U)] := slA_put (Ne.symm a9.ne)
  have k11 := k10.slA (vs := putS 4 (.ref U) [some (.ref a), some (.str (S t)), some (.ref L)]) a10 np (.inl (by simp))
  generalize slH H10 g N.Game dg (putS 4 (.ref U) [some (.ref a), some (.str (S t)), some (.ref L)]) = H11 at *
  refine ⟨_, _, rfl, _, rfl, g, _, dg, p5, _, 3, rfl, a11.slt, T.c_Game, s5, rfl, ?_⟩
  have a12 : SlA (slH H11 g N.Game dg (putS 3 (.ref m) [some (.ref a), some (.str (S t)), some (.ref L), none, some (.ref U)])) g N.Game dg [some (.ref a), some (.str (S t)), some (.ref L), some (.ref m), some (.ref U)] := slA_put (Ne.symm a9.ne)
  have k12 := k11.slA (vs := putS 3 (.ref m) [some (.ref a), some (.str (S t)), some (.ref L), none, some (.ref U)]) a11 np (.inl (by simp))
  generalize slH H11 g N.Game dg (putS 3 (.ref m) [some (.ref a), some (.str (S t)), some (.ref L), none, some (.ref U)]) = H12 at *
  have kk12 : Kp N [g, dg] H H12 := kk9.then (k12.mono fun x hx => .inl (by simp at hx; simp [hx]))
  have Lg : L ≠ g := ne_of eL9 a9.at_ (fun z => slO_lst z.symm)
  have Ug : U ≠ g := ne_of eU9 a9.at_ (fun z => slO_lst z.symm)
  have free : ∀ {b}, (H b = none ∨ b ∈ [g, dg]) → b = g ∨ b = dg ∨ H b = none := fun {b} z => by
    rcases z with z | z
    · exact .inr (.inr z)
    · simp only [List.mem_cons, List.not_mem_nil, or_false] at z
      exact z.imp id .inl
  refine q _ (g :: dg :: L :: U :: [m, dm, hl2]) ⟨dg, a, L, U, m, [m, dm, hl2], rfl, a12, ra.keep kk12, ⟨[], k12 _ _ eL9 (.inl (by simp [Lg])), .nil⟩, ⟨[], k12 _ _ eU9 (.inl (by simp [Ug])), .nil⟩, hLU, ?_, ?_⟩ kk12 ?_
  · exact mat9.keep k12 fun b hb => by
      simp only [List.mem_cons, List.not_mem_nil, or_false] at hb ⊢
      rcases hb with rfl | rfl | rfl
      · exact Ne.symm gm_ne
      · exact Ne.symm gdm_ne
      · exact Ne.symm g_hl
  · intro b hb
    simp only [List.mem_cons, List.not_mem_nil, or_false] at hb
    rcases hb with rfl | rfl | rfl
    · exact ⟨Ne.symm gm_ne, Ne.symm dgm_ne, Ne.symm Lm, Ne.symm Um⟩
    · exact ⟨Ne.symm gdm_ne, Ne.symm dgdm_ne, Ne.symm Ldm, Ne.symm Udm⟩
    · exact ⟨Ne.symm g_hl, Ne.symm dg_hl, Ne.symm L_hl, Ne.symm U_hl⟩
  · intro b hb
    simp only [List.mem_cons, List.not_mem_nil, or_false] at hb
    rcases hb with rfl | rfl | rfl | rfl | rfl | rfl | rfl
    · exact .inl rfl
    · exact .inr (.inl rfl)
    · exact free gL
    · exact free gU
    · exact free gm
    · exact free gdm
    · exact free ghl
theorem ok_Game_init (T : Txt K w mg N) : FnR Pw w K mg base CX0 6 N.Game_init (sp_Game_init K N) := by
  obtain ⟨fd, F, b⟩ := T.d_Game_init
  exact mk_fn F b sc_Game_init (fun vs H Q E h => by (repeat (first | (obtain ⟨rfl, _⟩ := h; rfl) | (obtain ⟨_, h⟩ := h)))) fun cdv A outer s H vs Q E hr h => ⟨t_Game_init K N, (PSs.nox (by exact (pss_cons (ps_if (pt_not (pt_val (pe_callB (SlX.call_isiSl (.ref N.Rule)) rfl T.n_isinstance bt_isinstance (pa_cons (pv 1) (pa_cons (pe_glob rfl T.g_Rule rfl) pa_nil))))) pss_never pss_nil)
 (pss_cons (ps_if (pt_not (pt_val (pe_cl (ok_is_stand T) (hr.mono (by decide)) rfl T.g_is_stand T.k_is_stand pass0 (pa_cons (pv 2) (pa_cons (SlX.pe_propSl (pv 1) T.c_Rule T.p_Rule_signs.at_ T.p_Rule_signs.get T.p_Rule_signs.tak T.p_Rule_signs.rec_ (ok_Rule_signs T) (hr.mono (by decide)) (fun _ _ _ _ z => z)) pa_nil))))) pss_never pss_nil)
 (pss_cons (ps_asg (pe_tup (pa_cons (pv 1) (pa_cons (pv 2) pa_nil))) (pg_tup rfl (pgs_cons (pg_sl (pv 0)) (pgs_cons (pg_sl (pv 0)) pgs_nil))))
 (pss_one (ps_asg (pe_tup (pa_cons (pe_lst pa_nil) (pa_cons (pe_lst pa_nil) (pa_cons (StX.pe_makeR T.mk_Moment (ok_Moment_init T) (hr.mono (by decide)) rfl T.g_Moment pass0 (pa_cons (pv 1) (pa_cons (pv 2) pa_nil))) pa_nil)))) (pg_tup rfl (pgs_cons (pg_sl (pv 0)) (pgs_cons (pg_sl (pv 0)) (pgs_cons (pg_sl (pv 0)) pgs_nil))))))))))), pure_Game_init T vs H Q E h⟩
end
end Sw
namespace Sw
open PySem PySem.Spec PyProof.Rows L2
open SX (S S_cat S_len S_inj)
open SlX (SlO SlR putS slH)
section
variable {K : PySem.W.Frag} {w : World} {mg : Str → Option Value} {N : Nm} {base : Heap}
def sp_Game_text (K : PySem.W.Frag) (N : Nm) : Sp := fun vs H Q _ => ∃ (g : Addr) (own : List Addr) (G : GS), vs = [.ref g] ∧ GameAt N H g own G ∧ Q (.str (S G.mom.t)) H
def t_Game_text (K : PySem.W.Frag) (N : Nm) : TS :=
 (tRet (SlX.tSl K (SlX.tSl K (tVar 0) "its_moment") "now_text"))
theorem pure_Game_text (T : Txt K w mg N) (vs : List V) (H : Hp) (Q : VK) (E : XK) (h : sp_Game_text K N vs H Q E) : t_Game_text K N (Eo Q) (start nm_Game_text vs) H := by
  obtain ⟨g, own, G, rfl, ⟨dg, a, L, U, m, ownM, rfl, sa, ra, la, ua, hLU, ⟨dm, a2, hl, rfl, sm, rm, eh⟩, ap⟩, q⟩ := h
  obtain ⟨p5, s5⟩ := T.s_Game_its_moment
  obtain ⟨p, s⟩ := T.s_Moment_now_text
  exact ⟨_, rfl, g, _, dg, p5, _, 3, _, rfl, sa.slt, T.c_Game, s5, rfl, m, _, dm, p, _, 3, _, rfl, sm.slt, T.c_Moment, s, rfl, q⟩
theorem ok_Game_text (T : Txt K w mg N) : FnR Pw w K mg base CX0 4 N.Game_text (sp_Game_text K N) := by
  obtain ⟨fd, F, b⟩ := T.d_Game_text
  exact mk_fn F b sc_Game_text (fun vs H Q E h => by (repeat (first | (obtain ⟨rfl, _⟩ := h; rfl) | (obtain ⟨_, h⟩ := h)))) fun cdv A outer s H vs Q E hr h => ⟨t_Game_text K N, (PSs.nox (by exact (pss_one (ps_ret (SlX.pe_sl (SlX.pe_sl (pv 0))))))), pure_Game_text T vs H Q E h⟩
def sp_Game_rule (K : PySem.W.Frag) (N : Nm) : Sp := fun vs H Q _ => ∃ (g : Addr) (own : List Addr) (G : GS), vs = [.ref g] ∧ GameAt N H g own G ∧ ∀ a, RuleAt N H a G.mom.tab G.mom.r → Q (.ref a) H
def t_Game_rule (K : PySem.W.Frag) (N : Nm) : TS :=
 (tRet (SlX.tSl K (SlX.tSl K (tVar 0) "its_moment") "now_rule"))
theorem pure_Game_rule (T : Txt K w mg N) (vs : List V) (H : Hp) (Q : VK) (E : XK) (h : sp_Game_rule K N vs H Q E) : t_Game_rule K N (Eo Q) (start nm_Game_rule vs) H := by
  obtain ⟨g, own, G, rfl, ⟨dg, a, L, U, m, ownM, rfl, sa, ra, la, ua, hLU, ⟨dm, a2, hl, rfl, sm, rm, eh⟩, ap⟩, q⟩ := h
  obtain ⟨p5, s5⟩ := T.s_Game_its_moment
  obtain ⟨p, s⟩ := T.s_Moment_now_rule
  exact ⟨_, rfl, g, _, dg, p5, _, 3, _, rfl, sa.slt, T.c_Game, s5, rfl, m, _, dm, p, _, 2, _, rfl, sm.slt, T.c_Moment, s, rfl, q _ rm⟩
theorem ok_Game_rule (T : Txt K w mg N) : FnR Pw w K mg base CX0 4 N.Game_rule (sp_Game_rule K N) := by
  obtain ⟨fd, F, b⟩ := T.d_Game_rule
  exact mk_fn F b sc_Game_rule (fun vs H Q E h => by (repeat (first | (obtain ⟨rfl, _⟩ := h; rfl) | (obtain ⟨_, h⟩ := h)))) fun cdv A outer s H vs Q E hr h => ⟨t_Game_rule K N, (PSs.nox (by exact (pss_one (ps_ret (SlX.pe_sl (SlX.pe_sl (pv 0))))))), pure_Game_rule T vs H Q E h⟩
def sp_Game_beats (K : PySem.W.Frag) (N : Nm) : Sp := fun vs H Q _ => ∃ (g : Addr) (own : List Addr) (G : GS), vs = [.ref g] ∧ GameAt N H g own G ∧ Q (.int G.mom.bt) H
def t_Game_beats (K : PySem.W.Frag) (N : Nm) : TS :=
 (tRet (SlX.tSl K (SlX.tSl K (tVar 0) "its_moment") "now_beats"))
theorem pure_Game_beats (T : Txt K w mg N) (vs : List V) (H : Hp) (Q : VK) (E : XK) (h : sp_Game_beats K N vs H Q E) : t_Game_beats K N (Eo Q) (start nm_Game_beats vs) H := by
  obtain ⟨g, own, G, rfl, ⟨dg, a, L, U, m, ownM, rfl, sa, ra, la, ua, hLU, ⟨dm, a2, hl, rfl, sm, rm, eh⟩, ap⟩, q⟩ := h
  obtain ⟨p5, s5⟩ := T.s_Game_its_moment
  obtain ⟨p, s⟩ := T.s_Moment_now_beats
  exact ⟨_, rfl, g, _, dg, p5, _, 3, _, rfl, sa.slt, T.c_Game, s5, rfl, m, _, dm, p, _, 0, _, rfl, sm.slt, T.c_Moment, s, rfl, q⟩
theorem ok_Game_beats (T : Txt K w mg N) : FnR Pw w K mg base CX0 4 N.Game_beats (sp_Game_beats K N) := by
  obtain ⟨fd, F, b⟩ := T.d_Game_beats
  exact mk_fn F b sc_Game_beats (fun vs H Q E h => by (repeat (first | (obtain ⟨rfl, _⟩ := h; rfl) | (obtain ⟨_, h⟩ := h)))) fun cdv A outer s H vs Q E hr h => ⟨t_Game_beats K N, (PSs.nox (by exact (pss_one (ps_ret (SlX.pe_sl (SlX.pe_sl (pv 0))))))), pure_Game_beats T vs H Q E h⟩
def sp_Game_len (K : PySem.W.Frag) (N : Nm) : Sp := fun vs H Q _ => ∃ (g : Addr) (own : List Addr) (G : GS), vs = [.ref g] ∧ GameAt N H g own G ∧ Q (.int G.log.length) H
def t_Game_len (K : PySem.W.Frag) (N : Nm) : TS :=
 (tRet (tCB (rLenQ K) (tCons (SlX.tSl K (tVar 0) "its_log") tNil)))
theorem pure_Game_len (T : Txt K w mg N) (vs : List V) (H : Hp) (Q : VK) (E : XK) (h : sp_Game_len K N vs H Q E) : t_Game_len K N (Eo Q) (start nm_Game_len vs) H := by
  obtain ⟨g, own, G, rfl, ⟨dg, a, L, U, m, ownM, rfl, sa, ra, ⟨lv, el, ld⟩, ua, hLU, ma, ap⟩, q⟩ := h
  obtain ⟨p3, s3⟩ := T.s_Game_its_log
  refine ⟨_, rfl, g, _, dg, p3, _, 2, _, rfl, sa.slt, T.c_Game, s3, rfl, L, _, rfl, .inl (.of el), ?_⟩
  rw [ld.length]
  exact q
theorem ok_Game_len (T : Txt K w mg N) : FnR Pw w K mg base CX0 4 N.Game_len (sp_Game_len K N) := by
  obtain ⟨fd, F, b⟩ := T.d_Game_len
  exact mk_fn F b sc_Game_len (fun vs H Q E h => by (repeat (first | (obtain ⟨rfl, _⟩ := h; rfl) | (obtain ⟨_, h⟩ := h)))) fun cdv A outer s H vs Q E hr h => ⟨t_Game_len K N, (PSs.nox (by exact (pss_one (ps_ret (pe_callB call_len_seq rfl T.n_len bt_len (pa_cons (SlX.pe_sl (pv 0)) pa_nil)))))), pure_Game_len T vs H Q E h⟩
def sp_Game_held (K : PySem.W.Frag) (N : Nm) : Sp := fun vs H Q _ => ∃ (g : Addr) (own : List Addr) (G : GS), vs = [.ref g] ∧ GameAt N H g own G ∧ ∀ p, H p = none → Q (.ref p) (upd H p (.lst (G.mom.hs.map V.int)))
def t_Game_held (K : PySem.W.Frag) (N : Nm) : TS :=
 (tRet (tCB (rListQ K) (tCons (SlX.tSl K (SlX.tSl K (tVar 0) "its_moment") "now_held") tNil)))
theorem pure_Game_held (T : Txt K w mg N) (vs : List V) (H : Hp) (Q : VK) (E : XK) (h : sp_Game_held K N vs H Q E) : t_Game_held K N (Eo Q) (start nm_Game_held vs) H := by
  obtain ⟨g, own, G, rfl, ⟨dg, a, L, U, m, ownM, rfl, sa, ra, la, ua, hLU, ⟨dm, a2, hl, rfl, sm, rm, eh⟩, ap⟩, q⟩ := h
  obtain ⟨p5, s5⟩ := T.s_Game_its_moment
  obtain ⟨p, s⟩ := T.s_Moment_now_held
  exact ⟨_, rfl, g, _, dg, p5, _, 3, _, rfl, sa.slt, T.c_Game, s5, rfl, m, _, dm, p, _, 1, _, rfl, sm.slt, T.c_Moment, s, rfl, hl, _, rfl, .inl (.of eh), q⟩
theorem ok_Game_held (T : Txt K w mg N) : FnR Pw w K mg base CX0 4 N.Game_held (sp_Game_held K N) := by
  obtain ⟨fd, F, b⟩ := T.d_Game_held
  exact mk_fn F b sc_Game_held (fun vs H Q E h => by (repeat (first | (obtain ⟨rfl, _⟩ := h; rfl) | (obtain ⟨_, h⟩ := h)))) fun cdv A outer s H vs Q E hr h => ⟨t_Game_held K N, (PSs.nox (by exact (pss_one (ps_ret (pe_callTy call_list_of rfl T.n_list bt_list (pa_cons (SlX.pe_sl (SlX.pe_sl (pv 0))) pa_nil)))))), pure_Game_held T vs H Q E h⟩
def sp_Game_log (K : PySem.W.Frag) (N : Nm) : Sp := fun vs H Q _ => ∃ (g : Addr) (own : List Addr) (G : GS), vs = [.ref g] ∧ GameAt N H g own G ∧ ∀ p lv, H p = none → DeedsV H lv G.log → Q (.ref p) (upd H p (.lst lv))
def t_Game_log (K : PySem.W.Frag) (N : Nm) : TS :=
 (tRet (tCB (rListQ K) (tCons (SlX.tSl K (tVar 0) "its_log") tNil)))
theorem pure_Game_log (T : Txt K w mg N) (vs : List V) (H : Hp) (Q : VK) (E : XK) (h : sp_Game_log K N vs H Q E) : t_Game_log K N (Eo Q) (start nm_Game_log vs) H := by
  obtain ⟨g, own, G, rfl, ⟨dg, a, L, U, m, ownM, rfl, sa, ra, ⟨lv, el, ld⟩, ua, hLU, ma, ap⟩, q⟩ := h
  obtain ⟨p3, s3⟩ := T.s_Game_its_log
  exact ⟨_, rfl, g, _, dg, p3, _, 2, _, rfl, sa.slt, T.c_Game, s3, rfl, L, _, rfl, .inl (.of el), fun p hp => q p lv hp ld⟩
theorem ok_Game_log (T : Txt K w mg N) : FnR Pw w K mg base CX0 4 N.Game_log (sp_Game_log K N) := by
  obtain ⟨fd, F, b⟩ := T.d_Game_log
  exact mk_fn F b sc_Game_log (fun vs H Q E h => by (repeat (first | (obtain ⟨rfl, _⟩ := h; rfl) | (obtain ⟨_, h⟩ := h)))) fun cdv A outer s H vs Q E hr h => ⟨t_Game_log K N, (PSs.nox (by exact (pss_one (ps_ret (pe_callTy call_list_of rfl T.n_list bt_list (pa_cons (SlX.pe_sl (pv 0)) pa_nil)))))), pure_Game_log T vs H Q E h⟩
def sp_Game_is_seat (K : PySem.W.Frag) (N : Nm) : Sp := fun vs H Q _ => ∃ (g : Addr) (own : List Addr) (G : GS) (i : Nat), vs = [.ref g, .int i] ∧ GameAt N H g own G ∧ i < G.t.length ∧ G.t.length ≤ 100 ∧ Q (.bl true) H
def t_Game_is_seat (K : PySem.W.Frag) (N : Nm) : TS :=
 (tRet (tAndV (tCl (sp_is_count K N) E0 (tCons (tVar 1) tNil)) (tOp rLtI (tVar 1) (tCB rLenX (tCons (SlX.tSl K (tVar 0) "first_text") tNil)))))
theorem pure_Game_is_seat (T : Txt K w mg N) (vs : List V) (H : Hp) (Q : VK) (E : XK) (h : sp_Game_is_seat K N vs H Q E) : t_Game_is_seat K N (Eo Q) (start nm_Game_is_seat vs) H := by
  obtain ⟨g, own, G, i, rfl, ⟨dg, a, L, U, m, ownM, rfl, sa, ra, la, ua, hLU, ma, ap⟩, hi, hl, q⟩ := h
  obtain ⟨p2, s2⟩ := T.s_Game_first_text
  refine ⟨_, rfl, i, rfl, ?_⟩
  rw [decide_eq_true (Int.natCast_nonneg i)]
  refine ⟨_, rfl, if_t rfl ⟨_, rfl, _, rfl, g, _, dg, p2, _, 1, _, rfl, sa.slt, T.c_Game, s2, rfl, _, rfl, by omega, _, _, rfl, rfl, ?_⟩⟩
  show Q (.bl (decide ((i : Int) < (G.t.length : Int)))) H
  rw [decide_eq_true (by omega)]
  exact q
theorem ok_Game_is_seat (T : Txt K w mg N) : FnR Pw w K mg base CX0 6 N.Game_is_seat (sp_Game_is_seat K N) := by
  obtain ⟨fd, F, b⟩ := T.d_Game_is_seat
  exact mk_fn F b sc_Game_is_seat (fun vs H Q E h => by (repeat (first | (obtain ⟨rfl, _⟩ := h; rfl) | (obtain ⟨_, h⟩ := h)))) fun cdv A outer s H vs Q E hr h => ⟨t_Game_is_seat K N, (PSs.nox (by exact (pss_one (ps_ret (pe_and (pe_cl (ok_is_count T) (hr.mono (by decide)) rfl T.g_is_count T.k_is_count pass0 (pa_cons (pv 1) pa_nil)) (pe_one (pe_cmpR op_lt (pv 1) (pe_callB call_lenX rfl T.n_len bt_len (pa_cons (SlX.pe_sl (pv 0)) pa_nil)) (nomark _)))))))), pure_Game_is_seat T vs H Q E h⟩
def sp_Game_is_deed (K : PySem.W.Frag) (N : Nm) : Sp := fun vs H Q _ => ∃ (g d : Addr) (own : List Addr) (G : GS) (D : Deed) (n r : Nat), vs = [.ref g, .ref d] ∧ GameAt N H g own G ∧ H d = some (.tup (dV D)) ∧ GsOk n r G ∧ Wf n r D ∧ ∀ H', Kp N [] H H' → Q (.bl true) H'
def t_Game_is_deed (K : PySem.W.Frag) (N : Nm) (w : World) : TS :=
 (tSeq (tIfS (tOr (tNot (tB (tCB (rIsi K) (tCons (tVar 1) (tCons (tC (.ty "tuple")) tNil))))) (tOr (tTest (tOp rEqI (tCB (rLenQ K) (tCons (tVar 1) tNil)) (tC (.int 0)))) (tNot (tB (tCB (rIsi K) (tCons (tOp (rIxT K) (tVar 1) (tC (.int 0))) (tCons (tC (.ty "str")) tNil)))))))
 tNever tNext)
 (tSeq (tIfS (tOr (tTest (tOp (rNotKd K N.WORDS) (tOp (rIxT K) (tVar 1) (tC (.int 0))) (tC (.ref N.WORDS)))) (tTest (tOp rNeI (tCB (rLenQ K) (tCons (tVar 1) tNil)) (tOp (rIxD K w) (tC (.ref N.WORDS)) (tOp (rIxT K) (tVar 1) (tC (.int 0)))))))
 tNever tNext)
 (tSeq (tIfS (tTest (tOp rEqX (tOp (rIxT K) (tVar 1) (tC (.int 0))) (tC (.str (S [98, 101, 97, 116, 115])))))
 (tRet (tAndV (tCl (sp_is_number K N) E0 (tCons (tOp (rIxT K) (tVar 1) (tC (.int 1))) tNil)) (tOp rLeI (tOp (rIxT K) (tVar 1) (tC (.int 1))) (tC (.int 50))))) tNext)
 (tSeq (tIfS (tTest (tOp rEqX (tOp (rIxT K) (tVar 1) (tC (.int 0))) (tC (.str (S [116, 117, 114, 110])))))
 (tRet (tCl (sp_is_integer K N) E0 (tCons (tOp (rIxT K) (tVar 1) (tC (.int 1))) tNil))) tNext)
 (tSeq (tIfS (tTest (tOp rEqX (tOp (rIxT K) (tVar 1) (tC (.int 0))) (tC (.str (S [116, 97, 98, 108, 101])))))
 (tRet (tCl (sp_is_table K N) E0 (tCons (tOp (rIxT K) (tVar 1) (tC (.int 1))) tNil))) tNext)
 (tSeq (tIfS (tNot (tB (SlX.tMethSl N.Game (sp_Game_is_seat K N) E0 (tVar 0) (tCons (tOp (rIxT K) (tVar 1) (tC (.int 1))) tNil))))
 tNever tNext)
 (tRet (tOrV (tOp rNeX (tOp (rIxT K) (tVar 1) (tC (.int 0))) (tC (.str (S [115, 101, 97, 116])))) (tAndV (tCl (sp_is_stand K N) E0 (tCons (tOp (rIxT K) (tVar 1) (tC (.int 2))) (tCons (SlX.tPropSl N.Rule (sp_Rule_signs K N) E0 (SlX.tSl K (tVar 0) "first_rule")) tNil))) (tOp rEqI (tCB rLenX (tCons (tOp (rIxT K) (tVar 1) (tC (.int 2))) tNil)) (tC (.int 1))))))))))))
theorem dW_in (T : Txt K w mg N) (D : Deed) : ∃ u, PySem.W.nsIn K N.WORDS (S (dW D)) = some (some u) ∧ RelV (.int ((dV D).length : Int)) u := by
  cases D with
  | beats k => exact T.wv (W0, 2) (by decide)
  | seat i c => exact T.wv (W1, 3) (by decide)
  | turn p => exact T.wv (W2, 2) (by decide)
  | table tb => exact T.wv (W3, 2) (by decide)
  | hold i => exact T.wv (W4, 2) (by decide)
  | free i => exact T.wv (W5, 2) (by decide)
theorem pure_Game_is_deed (T : Txt K w mg N) (vs : List V) (H : Hp) (Q : VK) (E : XK) (h : sp_Game_is_deed K N vs H Q E) : t_Game_is_deed K N w (Eo Q) (start nm_Game_is_deed vs) H := by
  obtain ⟨g, d, own, G, D, n, r, rfl, ga, ed, ok, wf, q⟩ := h
  obtain ⟨u, hu, ru⟩ := dW_in T D
  obtain ⟨dg, a, L, U, m, ownM, rfl, sa, ra, la, ua, hLU, ma, ap⟩ := id ga
  obtain ⟨p1, s1⟩ := T.s_Game_first_rule
  have hd2 : (2 : Int) ≤ (dV D).length ∧ (dV D).length ≤ 3 := by cases D <;> simp [dV]
  have st : SqT K H d (dV D) := .of ed
  -- isinstance(thing, tuple), len, isinstance(thing[0], str)
  refine ⟨_, rfl, _, _, _, _, true, rfl, .ty _, .base (.tup ed), kit_ty (by decide +kernel), _, rfl, if_f rfl ?_⟩
  refine ⟨_, rfl, d, _, rfl, .inr st, _, _, rfl, rfl, _, rfl, if_f (decide_eq_false (by omega)) ?_⟩
  refine ⟨_, rfl, d, _, _, _, rfl, rfl, st, dV_0 D, _, _, _, _, true, rfl, .ty _, .base (.str _), kit_ty (by decide +kernel), _, rfl, if_f rfl ?_⟩
  -- thing[0] not in WORDS or len(thing) != WORDS[thing[0]]
  refine ⟨_, rfl, d, _, _, _, rfl, rfl, st, dV_0 D, _, _, rfl, rfl, hu, _, rfl, if_f rfl ?_⟩
  refine ⟨_, rfl, d, _, rfl, .inr st, _, rfl, d, _, _, _, rfl, rfl, st, dV_0 D, N.WORDS, _, _, rfl, rfl, ⟨N.we, N.wn, u, T.kd.at_, T.kd.lit, hu, ru⟩, _, _, rfl, rfl, _, rfl, ?_⟩
  rw [dec_rfl]
  refine if_f rfl ?_
  refine ⟨_, rfl, d, _, _, _, rfl, rfl, st, dV_0 D, _, _, rfl, rfl, _, rfl, ?_⟩
  cases D with
  | beats k =>
    have w' : 1 ≤ k ∧ k ≤ 50 := wf
    refine if_t (by first | decide | simp [dW]) ⟨_, rfl, d, _, _, _, rfl, rfl, st, rfl, k, rfl, ?_⟩
    rw [decide_eq_true (by omega)]
    refine ⟨_, rfl, if_t rfl ⟨_, rfl, d, _, _, _, rfl, rfl, st, rfl, _, _, rfl, rfl, ?_⟩⟩
    show Q (.bl (decide ((k : Int) ≤ 50))) H
    rw [decide_eq_true (by omega)]
    exact q _ Kp.refl
  | turn p =>
    refine if_f (by first | decide | simp [dW]) ⟨_, rfl, d, _, _, _, rfl, rfl, st, rfl, _, _, rfl, rfl, _, rfl, ?_⟩
    exact if_t (by first | decide | simp [dW]) ⟨_, rfl, d, _, _, _, rfl, rfl, st, rfl, p, rfl, q _ Kp.refl⟩
  | table tb =>
    refine if_f (by first | decide | simp [dW]) ⟨_, rfl, d, _, _, _, rfl, rfl, st, rfl, _, _, rfl, rfl, _, rfl, ?_⟩
    refine if_f (by first | decide | simp [dW]) ⟨_, rfl, d, _, _, _, rfl, rfl, st, rfl, _, _, rfl, rfl, _, rfl, ?_⟩
    exact if_t (by first | decide | simp [dW]) ⟨_, rfl, d, _, _, _, rfl, rfl, st, rfl, tb, rfl, wf, fun H1 k1 => q _ k1⟩
  | hold i =>
    have w' : i < n := wf
    refine if_f (by first | decide | simp [dW]) ⟨_, rfl, d, _, _, _, rfl, rfl, st, rfl, _, _, rfl, rfl, _, rfl, ?_⟩
    refine if_f (by first | decide | simp [dW]) ⟨_, rfl, d, _, _, _, rfl, rfl, st, rfl, _, _, rfl, rfl, _, rfl, ?_⟩
    refine if_f (by first | decide | simp [dW]) ⟨_, rfl, g, dg, _, rfl, sa.slt, _, rfl, d, _, _, _, rfl, rfl, st, rfl, ?_⟩
    refine ⟨g, _, G, i, rfl, ga, by rw [ok.len]; exact w', by rw [ok.len]; exact ok.n1, _, rfl, if_f rfl ?_⟩
    refine ⟨_, rfl, d, _, _, _, rfl, rfl, st, rfl, _, _, rfl, rfl, _, rfl, if_t (by first | decide | simp [dW]) (q _ Kp.refl)⟩
  | free i =>
    have w' : i < n := wf
    refine if_f (by first | decide | simp [dW]) ⟨_, rfl, d, _, _, _, rfl, rfl, st, rfl, _, _, rfl, rfl, _, rfl, ?_⟩
    refine if_f (by first | decide | simp [dW]) ⟨_, rfl, d, _, _, _, rfl, rfl, st, rfl, _, _, rfl, rfl, _, rfl, ?_⟩
    refine if_f (by first | decide | simp [dW]) ⟨_, rfl, g, dg, _, rfl, sa.slt, _, rfl, d, _, _, _, rfl, rfl, st, rfl, ?_⟩
    refine ⟨g, _, G, i, rfl, ga, by rw [ok.len]; exact w', by rw [ok.len]; exact ok.n1, _, rfl, if_f rfl ?_⟩
    refine ⟨_, rfl, d, _, _, _, rfl, rfl, st, rfl, _, _, rfl, rfl, _, rfl, if_t (by first | decide | simp [dW]) (q _ Kp.refl)⟩
  | seat i c =>
    have w' : i < n ∧ 48 ≤ c ∧ c ≤ 49 + r := wf
    refine if_f (by first | decide | simp [dW]) ⟨_, rfl, d, _, _, _, rfl, rfl, st, rfl, _, _, rfl, rfl, _, rfl, ?_⟩
    refine if_f (by first | decide | simp [dW]) ⟨_, rfl, d, _, _, _, rfl, rfl, st, rfl, _, _, rfl, rfl, _, rfl, ?_⟩
    refine if_f (by first | decide | simp [dW]) ⟨_, rfl, g, dg, _, rfl, sa.slt, _, rfl, d, _, _, _, rfl, rfl, st, rfl, ?_⟩
    refine ⟨g, _, G, i, rfl, ga, by rw [ok.len]; exact w'.1, by rw [ok.len]; exact ok.n1, _, rfl, if_f rfl ?_⟩
    refine ⟨_, rfl, d, _, _, _, rfl, rfl, st, rfl, _, _, rfl, rfl, _, rfl, if_f (by first | decide | simp [dW]) ?_⟩
    obtain ⟨dr, er⟩ := id ra
    refine ⟨_, rfl, d, _, _, _, rfl, rfl, st, rfl, _, rfl, g, _, dg, p1, _, 0, _, rfl, sa.slt, T.c_Game, s1, rfl, a, dr, _, rfl, er.slt, a, _, _, rfl, ra, ?_⟩
    have hr2 : G.r ≤ 2 := by rw [ok.rr]; exact ok.r2
    refine ⟨[c], sgn G.r, rfl, by simp, by simp, fun x hx => ?_, fun H1 k1 => ⟨_, rfl, if_t rfl ?_⟩⟩
    · rw [List.mem_singleton.mp hx, mem_sgn hr2, ok.rr]
      exact w'.2
    · have st1 : SqT K H1 d (dV (.seat i c)) := .of (k1 _ _ ed (.inl (by simp)))
      exact ⟨_, rfl, d, _, _, _, rfl, rfl, st1, rfl, [c], rfl, by simp, _, _, rfl, rfl, q _ k1⟩
theorem ok_Game_is_deed (T : Txt K w mg N) : FnR Pw w K mg base CX0 8 N.Game_is_deed (sp_Game_is_deed K N) := by
  obtain ⟨fd, F, b⟩ := T.d_Game_is_deed
  exact mk_fn F b sc_Game_is_deed (fun vs H Q E h => by (repeat (first | (obtain ⟨rfl, _⟩ := h; rfl) | (obtain ⟨_, h⟩ := h)))) fun cdv A outer s H vs Q E hr h => ⟨t_Game_is_deed K N w, (PSs.nox (by exact (pss_cons (ps_if (PW.pt (pw_or (pt_not (pt_val (pe_callB call_isi rfl T.n_isinstance bt_isinstance (pa_cons (pv 1) (pa_cons (pe_bltn rfl T.n_tuple bt_tuple rfl) pa_nil))))) (pw_or (pt_cmpR op_eqI (pe_callB call_len_seq rfl T.n_len bt_len (pa_cons (pv 1) pa_nil)) pe_int (nomark _)) (pw_or1 (pt_not (pt_val (pe_callB call_isi rfl T.n_isinstance bt_isinstance (pa_cons (pe_ix ix_tup (pv 1) pe_int (fun _ _ => rfl)) (pa_cons (pe_bltn rfl T.n_str bt_str rfl) pa_nil))))))))) pss_never pss_nil)
 (pss_cons (ps_if (PW.pt (pw_or (pt_cmpR (op_notIn_kd T.kd) (pe_ix ix_tup (pv 1) pe_int (fun _ _ => rfl)) (pe_gs rfl T.g_WORDS) (by with_unfolding_all rfl)) (pw_or1 (pt_cmpR op_neI (pe_callB call_len_seq rfl T.n_len bt_len (pa_cons (pv 1) pa_nil)) (pe_ix ix_kdict (pe_gs rfl T.g_WORDS) (pe_ix ix_tup (pv 1) pe_int (fun _ _ => rfl)) (fun _ _ => rfl)) (nomark _))))) pss_never pss_nil)
 (pss_cons (ps_if (pt_cmpR op_eqX (pe_ix ix_tup (pv 1) pe_int (fun _ _ => rfl)) (pe_lit (l := [98, 101, 97, 116, 115]) (by decide +kernel)) (nomark _)) (pss_one (ps_ret (pe_and (pe_cl (ok_is_number T) (hr.mono (by decide)) rfl T.g_is_number T.k_is_number pass0 (pa_cons (pe_ix ix_tup (pv 1) pe_int (fun _ _ => rfl)) pa_nil)) (pe_one (pe_cmpR op_le (pe_ix ix_tup (pv 1) pe_int (fun _ _ => rfl)) (pe_gs rfl T.g_MOST_BEATS) (nomark _)))))) pss_nil)
 (pss_cons (ps_if (pt_cmpR op_eqX (pe_ix ix_tup (pv 1) pe_int (fun _ _ => rfl)) (pe_lit (l := [116, 117, 114, 110]) (by decide +kernel)) (nomark _)) (pss_one (ps_ret (pe_cl (ok_is_integer T) (hr.mono (by decide)) rfl T.g_is_integer T.k_is_integer pass0 (pa_cons (pe_ix ix_tup (pv 1) pe_int (fun _ _ => rfl)) pa_nil)))) pss_nil)
 (pss_cons (ps_if (pt_cmpR op_eqX (pe_ix ix_tup (pv 1) pe_int (fun _ _ => rfl)) (pe_lit (l := [116, 97, 98, 108, 101]) (by decide +kernel)) (nomark _)) (pss_one (ps_ret (pe_cl (ok_is_table T) (hr.mono (by decide)) rfl T.g_is_table T.k_is_table pass0 (pa_cons (pe_ix ix_tup (pv 1) pe_int (fun _ _ => rfl)) pa_nil)))) pss_nil)
 (pss_cons (ps_if (pt_not (pt_val (SlX.pe_methSl (pv 0) T.c_Game T.m_Game_is_seat (ok_Game_is_seat T) (hr.mono (by decide)) pass0 (pa_cons (pe_ix ix_tup (pv 1) pe_int (fun _ _ => rfl)) pa_nil)))) pss_never pss_nil)
 (pss_one (ps_ret (pe_or (pe_cmpR op_neX (pe_ix ix_tup (pv 1) pe_int (fun _ _ => rfl)) (pe_lit (l := [115, 101, 97, 116]) (by decide +kernel)) (nomark _)) (pe_one (pe_and (pe_cl (ok_is_stand T) (hr.mono (by decide)) rfl T.g_is_stand T.k_is_stand pass0 (pa_cons (pe_ix ix_tup (pv 1) pe_int (fun _ _ => rfl)) (pa_cons (SlX.pe_propSl (SlX.pe_sl (pv 0)) T.c_Rule T.p_Rule_signs.at_ T.p_Rule_signs.get T.p_Rule_signs.tak T.p_Rule_signs.rec_ (ok_Rule_signs T) (hr.mono (by decide)) (fun _ _ _ _ z => z)) pa_nil))) (pe_one (pe_cmpR op_eqI (pe_callB call_lenX rfl T.n_len bt_len (pa_cons (pe_ix ix_tup (pv 1) pe_int (fun _ _ => rfl)) pa_nil)) pe_int (nomark _)))))))))))))))), pure_Game_is_deed T vs H Q E h⟩
end
end Sw
namespace Sw
open PySem PySem.Spec PyProof.Rows L2
open SX (S S_cat S_len S_inj)
open SlX (SlO SlR putS slH)
section
variable {K : PySem.W.Frag} {w : World} {mg : Str → Option Value} {N : Nm} {base : Heap}
def sp_Game_do (K : PySem.W.Frag) (N : Nm) : Sp := fun vs H Q E => ∃ (g d : Addr) (own : List Addr) (G : GS) (D : Deed) (n r : Nat), vs = [.ref g, .ref d] ∧ GameAt N H g own G ∧ H d = some (.tup (dV D)) ∧ GsOk n r G ∧ G.log.length < 190 ∧ Wf n r D ∧
  (canDo G.mom D = true → ∀ H' own', GameAt N H' g own' { G with log := G.log ++ [D], gone := [] } → Kp N own H H' → Grow H own own' → Q .non H') ∧
  (canDo G.mom D = false → ∀ H' dx, Kp N [] H H' → H' dx = some (.xd [(("deed" : Str), .ref d)]) → E (.ref N.Refused) (some dx) H')
def t_Game_do (K : PySem.W.Frag) (N : Nm) (E : XK) : TS :=
 (tSeq (tIfS (tNot (tB (SlX.tMethSl N.Game (sp_Game_is_deed K N) E0 (tVar 0) (tCons (tVar 1) tNil))))
 tNever tNext)
 (tSeq (tIfS (tTest (tOp rGeI (tCB (rLenQ K) (tCons (SlX.tSl K (tVar 0) "its_log") tNil)) (tC (.int 200))))
 tNever tNext)
 (tSeq (tIfS (tNot (tB (SlX.tMethSl N.Moment (sp_Moment_can_do K N) E0 (SlX.tSl K (tVar 0) "its_moment") (tCons (tVar 1) tNil))))
 (fun _ σ H => tMkRef N.Refused (tCons (tVar 1) tNil) σ H fun cls d H2 => E cls d H2) tNext)
 (tSeq (tDrop (SlX.tMethSl N.Moment (sp_Moment_do K N) E0 (SlX.tSl K (tVar 0) "its_moment") (tCons (tVar 1) tNil)))
 (tSeq (tDrop (tBM K "list" rAppend (SlX.tSl K (tVar 0) "its_log") (tCons (tVar 1) tNil)))
 (tDrop (tBM0 K "list" rClear (SlX.tSl K (tVar 0) "its_undone"))))))))
theorem Kp.cons {l : List Addr} {H H1 : Hp} {a : Addr} (k : Kp N l H H1) : Kp N (a :: l) H H1 := k.mono fun x hx => .inl (by simp [hx])
theorem pure_Game_do (T : Txt K w mg N) (vs : List V) (H : Hp) (Q : VK) (E : XK) (h : sp_Game_do K N vs H Q E) : t_Game_do K N E (Eo Q) (start nm_Game_do vs) H := by
  obtain ⟨g, d, own, G, D, n, r, rfl, ga, ed, ok, hlen, wf, qt, qf⟩ := h
  obtain ⟨dg, a, L, U, m, ownM, rfl, sa, ra, ⟨lv, el, ld⟩, ⟨uv, eu, ud⟩, hLU, ma, ap⟩ := id ga
  obtain ⟨p3, s3⟩ := T.s_Game_its_log
  obtain ⟨p4, s4⟩ := T.s_Game_its_undone
  obtain ⟨p5, s5⟩ := T.s_Game_its_moment
  -- is_deed
  refine ⟨_, rfl, g, dg, _, rfl, sa.slt, _, rfl, g, d, _, G, D, n, r, rfl, ga, ed, ok, wf, fun H1 k1 => ⟨_, rfl, if_f rfl ?_⟩⟩
  have sa1 := sa.keep k1 (by simp)
  have el1 := k1 _ _ el (.inl (by simp))
  have eu1 := k1 _ _ eu (.inl (by simp))
  have ma1 := ma.keep k1 (by simp)
  have ed1 := k1 _ _ ed (.inl (by simp))
  obtain ⟨dm, a2, hl, rfl, sm1, rm1, eh1⟩ := id ma1
  -- len
  refine ⟨_, rfl, g, _, dg, p3, _, 2, _, rfl, sa1.slt, T.c_Game, s3, rfl, L, _, rfl, .inl (.of el1), _, _, rfl, rfl, _, rfl, if_f (decide_eq_false (by rw [ld.length]; omega)) ?_⟩
  -- can_do
  refine ⟨_, rfl, g, _, dg, p5, _, 3, _, rfl, sa1.slt, T.c_Game, s5, rfl, m, dm, _, rfl, sm1.slt, _, rfl, m, d, _, G.mom, D, n, r, _, rfl, ma1, ed1, ok.mom, wf, _, rfl, ?_⟩
  cases hc : canDo G.mom D with
  | false =>
    refine if_t rfl ⟨_, rfl, _, rfl, fun dx hdx => ?_⟩
    exact qf hc _ dx (k1.new hdx) upd_same
  | true =>
    refine if_f rfl ?_
    have apm := ap
    refine ⟨_, rfl, g, _, dg, p5, _, 3, _, rfl, sa1.slt, T.c_Game, s5, rfl, m, dm, _, rfl, sm1.slt, _, rfl, m, d, _, G.mom, D, n, r, _, rfl, ma1, ed1, ok.mom, by omega, wf, fun H2 ownM' ma2 k2 gr2 => ?_⟩
    have gO : g ∉ [m, dm, hl] := fun z => (ap _ z).1 rfl
    have dgO : dg ∉ [m, dm, hl] := fun z => (ap _ z).2.1 rfl
    have LO : L ∉ [m, dm, hl] := fun z => (ap _ z).2.2.1 rfl
    have UO : U ∉ [m, dm, hl] := fun z => (ap _ z).2.2.2 rfl
    have sa2 := sa1.keep k2 gO
    have el2 := k2 _ _ el1 (.inl LO)
    have eu2 := k2 _ _ eu1 (.inl UO)
    have ed2 := k2 _ _ ed1 (.inr Prm.tup)
    -- append
    refine ⟨_, rfl, g, _, dg, p3, _, 2, _, rfl, sa2.slt, T.c_Game, s3, rfl, .inl ⟨rfl, _, .of el2⟩, _, rfl, L, lv, _, rfl, rfl, el2, size_ok (by rw [ld.length]; omega), ?_⟩
    have k3 : Kp N [L] H2 (upd H2 L (.lst (lv ++ [.ref d]))) := Kp.refl.lst el2 (.inl (by simp))
    have gL : g ≠ L := ne_of sa2.at_ el2 slO_lst
    have dgL : dg ≠ L := ne_of sa2.dx el2 (fun z => by cases z)
    have sa3 := sa2.keep k3 (by simp [gL])
    have eu3 := k3 _ _ eu2 (.inl (by simp [Ne.symm hLU]))
    have el3 : (upd H2 L (.lst (lv ++ [.ref d]))) L = some (.lst (lv ++ [.ref d])) := upd_same
    generalize upd H2 L (.lst (lv ++ [.ref d])) = H3 at *
    -- clear
    refine ⟨_, rfl, g, _, dg, p4, _, 4, _, rfl, sa3.slt, T.c_Game, s4, rfl, .inl ⟨rfl, _, .of eu3⟩, U, uv, rfl, rfl, eu3, ?_⟩
    have k4 : Kp N [L, U] H2 (upd H3 U (.lst [])) := (k3.mono fun x hx => .inl (by simp at hx; simp [hx])).lst eu3 (.inl (by simp))
    have gU : g ≠ U := ne_of sa3.at_ eu3 slO_lst
    have dgU : dg ≠ U := ne_of sa3.dx eu3 (fun z => by cases z)
    have el4 : (upd H3 U (.lst [])) L = some (.lst (lv ++ [.ref d])) := (upd_ne hLU).trans el3
    have eu4 : (upd H3 U (.lst [])) U = some (.lst []) := upd_same
    generalize upd H3 U (.lst []) = H4 at *
    have sa4 := sa2.keep k4 (by simp [gL, gU])
    have kall : Kp N (g :: dg :: L :: U :: [m, dm, hl]) H H4 := ((k1.up).then (k2.mono fun x hx => .inl (by simp at hx ⊢; simp [hx]))).then (k4.mono fun x hx => .inl (by simp at hx ⊢; rcases hx with rfl | rfl <;> simp))
    have k12 : Kp N (g :: dg :: L :: U :: [m, dm, hl]) H H2 := (k1.up).then (k2.mono fun x hx => .inl (by simp at hx ⊢; simp [hx]))
    have notin : ∀ {b o}, H1 b = some o → b ∉ [m, dm, hl] → b ∉ ownM' := fun {b o} e z y => by
      rcases gr2 b y with q | q
      · exact z q
      · rw [e] at q; cases q
    have gN := notin sa1.at_ gO
    have dgN := notin sa1.dx dgO
    have LN := notin el1 LO
    have UN := notin eu1 UO
    have ma4 := ma2.keep k4 fun b hb => by
      simp only [List.mem_cons, List.not_mem_nil, or_false]
      rintro (rfl | rfl)
      · exact LN hb
      · exact UN hb
    refine qt hc _ (g :: dg :: L :: U :: ownM') ⟨dg, a, L, U, m, ownM', rfl, sa4, ra.keep kall, ⟨_, el4, (ld.keep kall).snoc (kall _ _ ed (.inr Prm.tup))⟩, ⟨[], eu4, .nil⟩, hLU, ?_, ?_⟩ kall ?_
    · show MomAt N H4 m ownM' (replay (mom0 G.tab G.r G.t) (G.log ++ [D]))
      rw [replay_snoc]
      exact ma4
    · intro b hb
      exact ⟨fun z => gN (z ▸ hb), fun z => dgN (z ▸ hb), fun z => LN (z ▸ hb), fun z => UN (z ▸ hb)⟩
    · intro b hb
      simp only [List.mem_cons] at hb
      rcases hb with rfl | rfl | rfl | rfl | hb
      · exact .inl (by simp)
      · exact .inl (by simp)
      · exact .inl (by simp)
      · exact .inl (by simp)
      · rcases gr2 b hb with q | q
        · exact .inl (by simp at q ⊢; simp [q])
        · exact .inr ((k1.fresh q).resolve_right (by simp))
theorem ok_Game_do (T : Txt K w mg N) : FnR Pw w K mg base (L2.CX Pw w) 11 N.Game_do (sp_Game_do K N) := by
  obtain ⟨fd, F, b⟩ := T.d_Game_do
  exact mk_fn F b sc_Game_do (fun vs H Q E h => by (repeat (first | (obtain ⟨rfl, _⟩ := h; rfl) | (obtain ⟨_, h⟩ := h)))) fun cdv A outer s H vs Q E hr h => ⟨t_Game_do K N E, (by exact (pss_cons (ps_if (pt_not (pt_val (SlX.pe_methSl (pv 0) T.c_Game T.m_Game_is_deed (ok_Game_is_deed T) (hr.mono (by decide)) pass0 (pa_cons (pv 1) pa_nil)))) pss_never pss_nil)
 (pss_cons (ps_if (pt_cmpR op_ge (pe_callB call_len_seq rfl T.n_len bt_len (pa_cons (SlX.pe_sl (pv 0)) pa_nil)) (pe_gs rfl T.g_MOST) (nomark _)) pss_never pss_nil)
 (pss_cons (ps_if (pt_not (pt_val (SlX.pe_methSl (SlX.pe_sl (pv 0)) T.c_Moment T.m_Moment_can_do (ok_Moment_can_do T) (hr.mono (by decide)) pass0 (pa_cons (pv 1) pa_nil)))) (pss_one (ps_raise rfl (takes_of rfl rfl rfl rfl) (pmk_ref T.wx_Refused T.no_deed T.g_Refused T.n_super htop hr (by decide) (pa_cons (pv 1) pa_nil)))) pss_nil)
 (pss_cons (ps_expr (SlX.pe_methSl (SlX.pe_sl (pv 0)) T.c_Moment T.m_Moment_do (ok_Moment_do T) (hr.mono (by decide)) pass0 (pa_cons (pv 1) pa_nil)))
 (pss_cons (ps_expr (pe_bm PySem.F.plainAttrs_list PySem.F.slot_list_append PySem.F.type_list_append mt_append (SlX.pe_sl (pv 0)) (pa_cons (pv 1) pa_nil)))
 (pss_one (ps_expr (pe_bm0 PySem.F.plainAttrs_list PySem.F.slot_list_clear PySem.F.type_list_clear mt_clear (SlX.pe_sl (pv 0))))))))))), pure_Game_do T vs H Q E h⟩
/-- what moment_behind asks of a game -/
def sp_Game_moment_behind (K : PySem.W.Frag) (N : Nm) : Sp := fun vs H Q _ => ∃ (g dg a L : Addr) (ws : List (Option V)) (tab : List Nat) (n r : Nat) (t : List Nat) (ds : List Deed), vs = [.ref g, .ref L] ∧ SlA H g N.Game dg (some (.ref a) :: some (.str (S t)) :: ws) ∧ RuleAt N H a tab r ∧ LogAt H L ds ∧
  MomOk n r 0 (mom0 tab r t) ∧ (∀ d ∈ ds, Wf n r d) ∧ ds.length ≤ 500 ∧
  ∀ H' m ownM, MomAt N H' m ownM (replay (mom0 tab r t) ds) → Kp N [] H H' → (∀ b ∈ ownM, H b = none) → Q (.ref m) H'
def t_Game_moment_behind (K : PySem.W.Frag) (N : Nm) : TS :=
 (tSeq (tAsg (StX.tMakeR N.Moment (sp_Moment_init K N) E0 (tCons (SlX.tSl K (tVar 0) "first_rule") (tCons (SlX.tSl K (tVar 0) "first_text") tNil))) (gName 2))
 (tSeq (tFor (iList K (tVar 1)) (gName 3)
 ((tDrop (SlX.tMethSl N.Moment (sp_Moment_do K N) E0 (tVar 2) (tCons (tVar 3) tNil)))))
 (tRet (tVar 2))))
theorem take_snoc {α : Type} {xs : List α} {i : Nat} {x : α} (h : xs[i]? = some x) : xs.take (i + 1) = xs.take i ++ [x] := by
  rw [List.take_add_one, h]; rfl
theorem pure_Game_moment_behind (T : Txt K w mg N) (vs : List V) (H : Hp) (Q : VK) (E : XK) (h : sp_Game_moment_behind K N vs H Q E) : t_Game_moment_behind K N (Eo Q) (start nm_Game_moment_behind vs) H := by
  obtain ⟨g, dg, a, L, ws, tab, n, r, t, ds, rfl, sa, ra, ⟨lv, el, ld⟩, ok, wf, hds, q⟩ := h
  obtain ⟨p1, s1⟩ := T.s_Game_first_rule
  obtain ⟨p2, s2⟩ := T.s_Game_first_text
  refine ⟨_, rfl, g, _, dg, p1, _, 0, _, rfl, sa.slt, T.c_Game, s1, rfl, _, rfl, g, _, dg, p2, _, 1, _, rfl, sa.slt, T.c_Game, s2, rfl, fun m dm hm hdm hne => ?_⟩
  have kM := (Kp.refl (N := N) (l := []) (H := H)).made (C := N.Moment) hm hdm hne
  refine ⟨m, dm, a, tab, r, t, rfl, newA_made hne, ra.keep kM, fun H1 hl hhl ma k1 => ⟨rfl, ?_⟩⟩
  have fhl : H hl = none := (kM.fresh hhl).resolve_right (by simp)
  have kk : Kp N [] H H1 := kM.trans k1 (fun _ h => .inl h) fun b hb => by
    simp only [List.mem_cons, List.not_mem_nil, or_false] at hb
    rcases hb with rfl | rfl
    · exact .inr hm
    · exact .inr hdm
  have el1 := kk _ _ el (.inl (by simp))
  have hlen : lv.length = ds.length := ld.length
  refine ⟨_, rfl, L, rfl, ⟨_, .of el1⟩, ?_⟩
  refine for_list (K := K) (a := L) (xs := lv) (fun i σ H' => ∃ v ownM, σ = [some (.ref g), some (.ref L), some (.ref m), v] ∧ MomAt N H' m ownM (replay (mom0 tab r t) (ds.take i)) ∧ Kp N [] H H' ∧ ∀ b ∈ ownM, H b = none) ⟨none, [m, dm, hl], rfl, ma, kk, ?_⟩ (fun i σ H' _ ⟨_, _, _, _, k, _⟩ => .of (k _ _ el (.inl (by simp)))) ?_ ?_
  · intro b hb
    simp only [List.mem_cons, List.not_mem_nil, or_false] at hb
    rcases hb with rfl | rfl | rfl
    · exact hm
    · exact hdm
    · exact fhl
  · rintro i x σ H2 hi ⟨v, ownM, rfl, ma2, k2, fr⟩
    have hil : i < ds.length := by rw [← hlen]; exact (List.getElem?_eq_some_iff.mp hi).1
    have hd : ds[i]? = some ds[i] := List.getElem?_eq_getElem hil
    obtain ⟨da, e1, e2⟩ := ld.get hd
    rw [e1] at hi
    cases hi
    have ok2 : MomOk n r (0 + (ds.take i).length) (replay (mom0 tab r t) (ds.take i)) := replay_ok ok fun d hd => wf d (List.mem_of_mem_take hd)
    obtain ⟨dm2, a2, hl2, rfl, sm2, rm2, eh2⟩ := id ma2
    refine ⟨_, rfl, m, dm2, _, rfl, sm2.slt, _, rfl, m, da, _, _, ds[i], n, r, _, rfl, ma2, k2 _ _ e2 (.inl (by simp)), ok2, by simp; omega, wf _ (List.getElem_mem hil), fun H3 ownM' ma3 k3 gr => ?_⟩
    refine ⟨_, ownM', rfl, ?_, k2.trans k3 (fun _ h => .inl h) (fun b hb => .inr (fr b hb)), fun b hb => ?_⟩
    · rw [take_snoc hd, replay_snoc]
      exact ma3
    · rcases gr b hb with z | z
      · exact fr b z
      · exact (k2.fresh z).resolve_right (by simp)
  · rintro σ H2 ⟨v, ownM, rfl, ma2, k2, fr⟩
    rw [hlen, List.take_length] at ma2
    exact ⟨_, rfl, q _ m ownM ma2 k2 fr⟩
theorem ok_Game_moment_behind (T : Txt K w mg N) : FnR Pw w K mg base CX0 13 N.Game_moment_behind (sp_Game_moment_behind K N) := by
  obtain ⟨fd, F, b⟩ := T.d_Game_moment_behind
  exact mk_fn F b sc_Game_moment_behind (fun vs H Q E h => by (repeat (first | (obtain ⟨rfl, _⟩ := h; rfl) | (obtain ⟨_, h⟩ := h)))) fun cdv A outer s H vs Q E hr h => ⟨t_Game_moment_behind K N, (PSs.nox (by exact (pss_cons (ps_set (i := 2) sc_Game_moment_behind.nd rfl (Or.inl rfl) (StX.pe_makeR T.mk_Moment (ok_Moment_init T) (hr.mono (by decide)) rfl T.g_Moment pass0 (pa_cons (SlX.pe_sl (pv 0)) (pa_cons (SlX.pe_sl (pv 0)) pa_nil))))
 (pss_cons (ps_for PassesOwn.never rfl (pi_list (pv 1)) (pg_name (i := 3) sc_Game_moment_behind.nd rfl (Or.inl rfl))
 (pss_one (ps_expr (SlX.pe_methSl (pv 2) T.c_Moment T.m_Moment_do (ok_Moment_do T) (hr.mono (by decide)) pass0 (pa_cons (pv 3) pa_nil)))))
 (pss_one (ps_ret (pv 2))))))), pure_Game_moment_behind T vs H Q E h⟩
end
end Sw
namespace Sw
open PySem PySem.Spec PyProof.Rows L2
open SX (S S_cat S_len S_inj)
open SlX (SlO SlR putS slH)
section
variable {K : PySem.W.Frag} {w : World} {mg : Str → Option Value} {N : Nm} {base : Heap}
theorem last_of {vs : List V} {ds l : List Deed} {D : Deed} {H : Hp} (h : DeedsV H vs ds) (e : ds = l ++ [D]) : ∃ a, vs[vs.length - 1]? = some (.ref a) ∧ H a = some (.tup (dV D)) ∧ vs.length = l.length + 1 := by
  have hl := h.length
  have hg : ds[l.length]? = some D := by rw [e]; simp
  obtain ⟨a, e1, e2⟩ := h.get hg
  have e3 : vs.length = l.length + 1 := by rw [hl, e]; simp
  exact ⟨a, by rw [e3]; exact e1, e2, e3⟩
theorem nice_log {n r : Nat} {G : GS} (ok : GsOk n r G) : Nice 4000 2 (.list (G.log.map deedD)) := (nice_deeds ok.n1 ok.r2 ok.log).list.mono (by have := ok.sz; omega) (Nat.le_refl _)
theorem nice_gone {n r : Nat} {G : GS} (ok : GsOk n r G) : Nice 4000 2 (.list (G.gone.map deedD)) := (nice_deeds ok.n1 ok.r2 ok.gone).list.mono (by have := ok.sz; omega) (Nat.le_refl _)
theorem nice_nil : Nice 0 1 (.list (([] : List Deed).map deedD)) := NiceAll.nil.list
def sp_Game_undo (K : PySem.W.Frag) (N : Nm) : Sp := fun vs H Q E => ∃ (g : Addr) (own : List Addr) (G : GS) (n r : Nat), vs = [.ref g] ∧ GameAt N H g own G ∧ GsOk n r G ∧
  (G.log = [] → ∀ H', Kp N [] H H' → E (.ref N.Nothing) none H') ∧
  (∀ l D, G.log = l ++ [D] → ∀ H' own' d, GameAt N H' g own' { G with log := l, gone := G.gone ++ [D] } → Kp N own H H' → Grow H own own' → H d = some (.tup (dV D)) → Q (.ref d) H')
def t_Game_undo (K : PySem.W.Frag) (N : Nm) (E : XK) : TS :=
 (tSeq (tIfS (tTest (tOp (rEqD K) (SlX.tSl K (tVar 0) "its_log") (tLst tNil)))
 (fun _ σ H => tMkNo N.Nothing σ H fun cls d H2 => E cls d H2) tNext)
 (tSeq (tAsg (tBM0 K "list" rPop (SlX.tSl K (tVar 0) "its_log")) (gName 1))
 (tSeq (SlX.sSl K (tVar 0) (SlX.tMethSl N.Game (sp_Game_moment_behind K N) E0 (tVar 0) (tCons (SlX.tSl K (tVar 0) "its_log") tNil)) "its_moment")
 (tSeq (tDrop (tBM K "list" rAppend (SlX.tSl K (tVar 0) "its_undone") (tCons (tVar 1) tNil)))
 (tRet (tVar 1))))))
theorem pure_Game_undo (T : Txt K w mg N) (vs : List V) (H : Hp) (Q : VK) (E : XK) (h : sp_Game_undo K N vs H Q E) : t_Game_undo K N E (Eo Q) (start nm_Game_undo vs) H := by
  obtain ⟨g, own, G, n, r, rfl, ga, ok, qe, q⟩ := h
  obtain ⟨dg, a, L, U, m, ownM, rfl, sa, ra, ⟨lv, el, ld⟩, ⟨uv, eu, ud⟩, hLU, ma, ap⟩ := id ga
  obtain ⟨p3, s3⟩ := T.s_Game_its_log
  obtain ⟨p4, s4⟩ := T.s_Game_its_undone
  obtain ⟨p5, s5⟩ := T.s_Game_its_moment
  have neRG := T.neRG
  have np : ∀ {us : List (Option V)}, ¬ Prm N (SlO g N.Game dg us) := not_prm_slo (Ne.symm neRG)
  refine ⟨_, rfl, g, _, dg, p3, _, 2, _, rfl, sa.slt, T.c_Game, s3, rfl, by show 0 ≤ sizeLine; decide, fun e0 he0 => ?_⟩
  have k1 : Kp N [] H (upd H e0 (.lst [])) := Kp.refl.new he0
  have ee : (upd H e0 (.lst [])) e0 = some (.lst []) := upd_same
  have sa1 := sa.keep k1 (by simp)
  have el1 := k1 _ _ el (.inl (by simp))
  have eu1 := k1 _ _ eu (.inl (by simp))
  have ma1 := ma.keep k1 (by simp)
  have ld1 := ld.keep k1
  generalize upd H e0 (.lst []) = H1 at *
  refine ⟨.list (G.log.map deedD), .list (([] : List Deed).map deedD), .lst (.of el1) (dp_deeds ld1), .lst (.of ee) (dp_deeds .nil), (nice_log ok).shaped (by decide), nice_nil.shaped (by decide), _, rfl, ?_⟩
  rw [eqv_deeds]
  by_cases hc : G.log = []
  · exact if_t (decide_eq_true hc) (qe hc _ k1)
  refine if_f (decide_eq_false hc) ?_
  obtain ⟨l, D, hl⟩ : ∃ l D, G.log = l ++ [D] := ⟨_, _, (List.dropLast_concat_getLast hc).symm⟩
  obtain ⟨d, ed, hd, hlv⟩ := last_of ld1 hl
  obtain ⟨d', ed', hd', _⟩ := last_of ld hl
  rw [ed] at ed'
  cases ed'
  -- pop
  refine ⟨_, rfl, g, _, dg, p3, _, 2, _, rfl, sa1.slt, T.c_Game, s3, rfl, .inl ⟨rfl, _, .of el1⟩, L, lv, _, rfl, rfl, el1, ed, ?_⟩
  have gL : g ≠ L := ne_of sa1.at_ el1 slO_lst
  have dgL : dg ≠ L := ne_of sa1.dx el1 (fun z => by cases z)
  have k2 : Kp N [L] H1 (upd H1 L (.lst lv.dropLast)) := Kp.refl.lst el1 (.inl (by simp))
  have el2 : (upd H1 L (.lst lv.dropLast)) L = some (.lst lv.dropLast) := upd_same
  have sa2 := sa1.keep k2 (by simp [gL])
  have eu2 := k2 _ _ eu1 (.inl (by simp [Ne.symm hLU]))
  have hd2 := k2 _ _ hd (.inr Prm.tup)
  have ld2 : DeedsV (upd H1 L (.lst lv.dropLast)) lv.dropLast l := by
    have := ld1.dropLast.keep k2
    rw [hl, List.dropLast_concat] at this
    exact this
  generalize upd H1 L (.lst lv.dropLast) = H2 at *
  -- moment_behind
  have wfl : ∀ x ∈ l, Wf n r x := fun x hx => ok.log x (by rw [hl]; simp [hx])
  have hll : l.length ≤ 500 := by
    have := ok.sz
    rw [hl] at this
    simp at this
    omega
  have ok0 : MomOk n r 0 (mom0 G.tab G.r G.t) := by
    have : MomOk n G.r 0 (mom0 G.tab G.r G.t) := mom0_ok ok.tab (by rw [ok.rr]; exact ok.r2) ok.n0 ok.n1 ok.len (by rw [ok.rr]; exact ok.ok)
    rw [ok.rr] at this ⊢
    exact this
  have k12 := (k1.up (m := [L])).then k2
  refine ⟨_, rfl, g, dg, _, rfl, sa2.slt, _, rfl, g, _, dg, p3, _, 2, _, rfl, sa2.slt, T.c_Game, s3, rfl, ?_⟩
  refine ⟨g, dg, a, L, _, G.tab, n, r, G.t, l, rfl, sa2, ?_, ⟨_, el2, ld2⟩, ?_, wfl, hll, fun H3 m3 ownM' ma3 k3 fr3 => ?_⟩
  · have := ra.keep k12
    rw [ok.rr] at this
    exact this
  · have := ok0
    rw [ok.rr] at this
    exact this
  have sa3 := sa2.keep k3 (by simp)
  have el3 := k3 _ _ el2 (.inl (by simp))
  have eu3 := k3 _ _ eu2 (.inl (by simp))
  refine ⟨_, rfl, g, _, dg, p5, _, 3, rfl, sa3.slt, T.c_Game, s5, ?_⟩
  have k4 : Kp N [g] H3 (slH H3 g N.Game dg (putS 3 (.ref m3) [some (.ref a), some (.str (S G.t)), some (.ref L), some (.ref m), some (.ref U)])) := Kp.refl.slA sa3 np (.inl (by simp))
  have sa4 : SlA (slH H3 g N.Game dg (putS 3 (.ref m3) [some (.ref a), some (.str (S G.t)), some (.ref L), some (.ref m), some (.ref U)])) g N.Game dg [some (.ref a), some (.str (S G.t)), some (.ref L), some (.ref m3), some (.ref U)] := slA_put (Ne.symm sa3.ne)
  have gU : g ≠ U := ne_of sa1.at_ eu1 slO_lst
  have dgU : dg ≠ U := ne_of sa1.dx eu1 (fun z => by cases z)
  have el4 := k4 _ _ el3 (.inl (by simp [Ne.symm gL]))
  have eu4 := k4 _ _ eu3 (.inl (by simp [Ne.symm gU]))
  have gO : g ∉ ownM' := fun z => by have := fr3 g z; rw [sa2.at_] at this; cases this
  have dgO : dg ∉ ownM' := fun z => by have := fr3 dg z; rw [sa2.dx] at this; cases this
  have LO : L ∉ ownM' := fun z => by have := fr3 L z; rw [el2] at this; cases this
  have UO : U ∉ ownM' := fun z => by have := fr3 U z; rw [eu2] at this; cases this
  have ma4 := ma3.keep k4 fun b hb => by simp only [List.mem_cons, List.not_mem_nil, or_false]; exact fun z => gO (z ▸ hb)
  generalize slH H3 g N.Game dg (putS 3 (.ref m3) [some (.ref a), some (.str (S G.t)), some (.ref L), some (.ref m), some (.ref U)]) = H4 at *
  -- append
  have hul : uv.length ≤ 1000 := by have := ok.sz; rw [ud.length]; omega
  refine ⟨_, rfl, g, _, dg, p4, _, 4, _, rfl, sa4.slt, T.c_Game, s4, rfl, .inl ⟨rfl, _, .of eu4⟩, _, rfl, U, uv, _, rfl, rfl, eu4, size_ok (by omega), _, rfl, ?_⟩
  have k5 : Kp N [U] H4 (upd H4 U (.lst (uv ++ [.ref d]))) := Kp.refl.lst eu4 (.inl (by simp))
  have k14 : Kp N [L, g] H H4 := ((k12.mono fun x hx => .inl (by simp at hx; simp [hx])).then k3.up).then (k4.mono fun x hx => .inl (by simp at hx; simp [hx]))
  have kall : Kp N (g :: dg :: L :: U :: ownM) H (upd H4 U (.lst (uv ++ [.ref d]))) := (k14.mono fun x hx => .inl (by simp at hx ⊢; rcases hx with rfl | rfl <;> simp)).then (k5.mono fun x hx => .inl (by simp at hx; simp [hx]))
  refine q l D hl _ (g :: dg :: L :: U :: ownM') d ⟨dg, a, L, U, m3, ownM', rfl, sa4.keep k5 (by simp [gU]), ra.keep kall, ⟨_, k5 _ _ el4 (.inl (by simp [hLU])), (ld2.keep k3).keep (k4.then (l := [g]) Kp.refl) |>.keep k5⟩, ⟨_, upd_same, (ud.keep kall).snoc (kall _ _ hd' (.inr Prm.tup))⟩, hLU, ?_, ?_⟩ kall ?_ hd'
  · have e : r = G.r := ok.rr.symm
    subst e
    exact ma4.keep k5 fun b hb => by simp only [List.mem_cons, List.not_mem_nil, or_false]; exact fun z => UO (z ▸ hb)
  · intro b hb
    exact ⟨fun z => gO (z ▸ hb), fun z => dgO (z ▸ hb), fun z => LO (z ▸ hb), fun z => UO (z ▸ hb)⟩
  · intro b hb
    simp only [List.mem_cons] at hb
    rcases hb with rfl | rfl | rfl | rfl | hb
    · exact .inl (by simp)
    · exact .inl (by simp)
    · exact .inl (by simp)
    · exact .inl (by simp)
    · refine (k12.fresh (fr3 b hb)).symm.imp (fun z => ?_) id
      simp at z ⊢; simp [z]
theorem ok_Game_undo (T : Txt K w mg N) : FnR Pw w K mg base (L2.CX Pw w) 15 N.Game_undo (sp_Game_undo K N) := by
  obtain ⟨fd, F, b⟩ := T.d_Game_undo
  exact mk_fn F b sc_Game_undo (fun vs H Q E h => by (repeat (first | (obtain ⟨rfl, _⟩ := h; rfl) | (obtain ⟨_, h⟩ := h)))) fun cdv A outer s H vs Q E hr h => ⟨t_Game_undo K N E, (by exact (pss_cons (ps_if (pt_cmpR (op_eqD hr.units) (SlX.pe_sl (pv 0)) (pe_lst pa_nil) (nomark _)) (pss_one (ps_raise rfl (takes_of rfl rfl rfl rfl) (pmk_no T.wx_Nothing T.g_Nothing T.n_super htop hr (by decide)))) pss_nil)
 (pss_cons (ps_set (i := 1) sc_Game_undo.nd rfl (Or.inl rfl) (pe_bm0 PySem.F.plainAttrs_list PySem.F.slot_list_pop PySem.F.type_list_pop mt_pop (SlX.pe_sl (pv 0))))
 (pss_cons (SlX.ps_sl (pv 0) (SlX.pe_methSl (pv 0) T.c_Game T.m_Game_moment_behind (ok_Game_moment_behind T) (hr.mono (by decide)) pass0 (pa_cons (SlX.pe_sl (pv 0)) pa_nil)))
 (pss_cons (ps_expr (pe_bm PySem.F.plainAttrs_list PySem.F.slot_list_append PySem.F.type_list_append mt_append (SlX.pe_sl (pv 0)) (pa_cons (pv 1) pa_nil)))
 (pss_one (ps_ret (pv 1)))))))), pure_Game_undo T vs H Q E h⟩
def sp_Game_redo (K : PySem.W.Frag) (N : Nm) : Sp := fun vs H Q E => ∃ (g : Addr) (own : List Addr) (G : GS) (n r : Nat), vs = [.ref g] ∧ GameAt N H g own G ∧ GsOk n r G ∧
  (G.gone = [] → ∀ H', Kp N [] H H' → E (.ref N.Nothing) none H') ∧
  (∀ l D, G.gone = l ++ [D] → ∀ H' own' d, GameAt N H' g own' { G with log := G.log ++ [D], gone := l } → Kp N own H H' → Grow H own own' → H d = some (.tup (dV D)) → Q (.ref d) H')
def t_Game_redo (K : PySem.W.Frag) (N : Nm) (E : XK) : TS :=
 (tSeq (tIfS (tTest (tOp (rEqD K) (SlX.tSl K (tVar 0) "its_undone") (tLst tNil)))
 (fun _ σ H => tMkNo N.Nothing σ H fun cls d H2 => E cls d H2) tNext)
 (tSeq (tAsg (tBM0 K "list" rPop (SlX.tSl K (tVar 0) "its_undone")) (gName 1))
 (tSeq (tDrop (SlX.tMethSl N.Moment (sp_Moment_do K N) E0 (SlX.tSl K (tVar 0) "its_moment") (tCons (tVar 1) tNil)))
 (tSeq (tDrop (tBM K "list" rAppend (SlX.tSl K (tVar 0) "its_log") (tCons (tVar 1) tNil)))
 (tRet (tVar 1))))))
theorem pure_Game_redo (T : Txt K w mg N) (vs : List V) (H : Hp) (Q : VK) (E : XK) (h : sp_Game_redo K N vs H Q E) : t_Game_redo K N E (Eo Q) (start nm_Game_redo vs) H := by
  obtain ⟨g, own, G, n, r, rfl, ga, ok, qe, q⟩ := h
  obtain ⟨dg, a, L, U, m, ownM, rfl, sa, ra, ⟨lv, el, ld⟩, ⟨uv, eu, ud⟩, hLU, ma, ap⟩ := id ga
  obtain ⟨p3, s3⟩ := T.s_Game_its_log
  obtain ⟨p4, s4⟩ := T.s_Game_its_undone
  obtain ⟨p5, s5⟩ := T.s_Game_its_moment
  refine ⟨_, rfl, g, _, dg, p4, _, 4, _, rfl, sa.slt, T.c_Game, s4, rfl, by show 0 ≤ sizeLine; decide, fun e0 he0 => ?_⟩
  have k1 : Kp N [] H (upd H e0 (.lst [])) := Kp.refl.new he0
  have ee : (upd H e0 (.lst [])) e0 = some (.lst []) := upd_same
  have sa1 := sa.keep k1 (by simp)
  have el1 := k1 _ _ el (.inl (by simp))
  have eu1 := k1 _ _ eu (.inl (by simp))
  have ma1 := ma.keep k1 (by simp)
  have ud1 := ud.keep k1
  generalize upd H e0 (.lst []) = H1 at *
  refine ⟨.list (G.gone.map deedD), .list (([] : List Deed).map deedD), .lst (.of eu1) (dp_deeds ud1), .lst (.of ee) (dp_deeds .nil), (nice_gone ok).shaped (by decide), nice_nil.shaped (by decide), _, rfl, ?_⟩
  rw [eqv_deeds]
  by_cases hc : G.gone = []
  · exact if_t (decide_eq_true hc) (qe hc _ k1)
  refine if_f (decide_eq_false hc) ?_
  obtain ⟨l, D, hl⟩ : ∃ l D, G.gone = l ++ [D] := ⟨_, _, (List.dropLast_concat_getLast hc).symm⟩
  obtain ⟨d, ed, hd, hlv⟩ := last_of ud1 hl
  obtain ⟨d', ed', hd', _⟩ := last_of ud hl
  rw [ed] at ed'
  cases ed'
  have wfD : Wf n r D := ok.gone D (by rw [hl]; simp)
  -- pop
  refine ⟨_, rfl, g, _, dg, p4, _, 4, _, rfl, sa1.slt, T.c_Game, s4, rfl, .inl ⟨rfl, _, .of eu1⟩, U, uv, _, rfl, rfl, eu1, ed, ?_⟩
  have gL : g ≠ L := ne_of sa1.at_ el1 slO_lst
  have dgL : dg ≠ L := ne_of sa1.dx el1 (fun z => by cases z)
  have gU : g ≠ U := ne_of sa1.at_ eu1 slO_lst
  have dgU : dg ≠ U := ne_of sa1.dx eu1 (fun z => by cases z)
  have k2 : Kp N [U] H1 (upd H1 U (.lst uv.dropLast)) := Kp.refl.lst eu1 (.inl (by simp))
  have eu2 : (upd H1 U (.lst uv.dropLast)) U = some (.lst uv.dropLast) := upd_same
  have sa2 := sa1.keep k2 (by simp [gU])
  have el2 := k2 _ _ el1 (.inl (by simp [hLU]))
  have hd2 := k2 _ _ hd (.inr Prm.tup)
  have ma2 := ma1.keep k2 fun b hb => by simp only [List.mem_cons, List.not_mem_nil, or_false]; exact (ap b hb).2.2.2
  have ud2 : DeedsV (upd H1 U (.lst uv.dropLast)) uv.dropLast l := by
    have := ud1.dropLast.keep k2
    rw [hl, List.dropLast_concat] at this
    exact this
  generalize upd H1 U (.lst uv.dropLast) = H2 at *
  have k12 := (k1.up (m := [U])).then k2
  obtain ⟨dm, a2, hl2, rfl, sm2, rm2, eh2⟩ := id ma2
  refine ⟨_, rfl, g, _, dg, p5, _, 3, _, rfl, sa2.slt, T.c_Game, s5, rfl, m, dm, _, rfl, sm2.slt, _, rfl, m, d, _, G.mom, D, n, r, _, rfl, ma2, hd2, ok.mom, by have := ok.sz; omega, wfD, fun H3 ownM' ma3 k3 gr3 => ?_⟩
  have gO : g ∉ [m, dm, hl2] := fun z => (ap _ z).1 rfl
  have dgO : dg ∉ [m, dm, hl2] := fun z => (ap _ z).2.1 rfl
  have LO : L ∉ [m, dm, hl2] := fun z => (ap _ z).2.2.1 rfl
  have UO : U ∉ [m, dm, hl2] := fun z => (ap _ z).2.2.2 rfl
  have gN := not_grown gO gr3 sa2.at_
  have dgN := not_grown dgO gr3 sa2.dx
  have LN := not_grown LO gr3 el2
  have UN := not_grown UO gr3 eu2
  have sa3 := sa2.keep k3 gO
  have el3 := k3 _ _ el2 (.inl LO)
  have eu3 := k3 _ _ eu2 (.inl UO)
  have hll : lv.length ≤ 1000 := by have := ok.sz; rw [ld.length]; omega
  refine ⟨_, rfl, g, _, dg, p3, _, 2, _, rfl, sa3.slt, T.c_Game, s3, rfl, .inl ⟨rfl, _, .of el3⟩, _, rfl, L, lv, _, rfl, rfl, el3, size_ok (by omega), _, rfl, ?_⟩
  have k4 : Kp N [L] H3 (upd H3 L (.lst (lv ++ [.ref d]))) := Kp.refl.lst el3 (.inl (by simp))
  have kall : Kp N (g :: dg :: L :: U :: [m, dm, hl2]) H (upd H3 L (.lst (lv ++ [.ref d]))) := ((k12.mono fun x hx => .inl (by simp at hx; simp [hx])).then (k3.mono fun x hx => .inl (by simp at hx ⊢; simp [hx]))).then (k4.mono fun x hx => .inl (by simp at hx; simp [hx]))
  refine q l D hl _ (g :: dg :: L :: U :: ownM') d ⟨dg, a, L, U, m, ownM', rfl, sa3.keep k4 (by simp [gL]), ra.keep kall, ⟨_, upd_same, (ld.keep kall).snoc (kall _ _ hd' (.inr Prm.tup))⟩, ⟨_, k4 _ _ eu3 (.inl (by simp [Ne.symm hLU])), (ud2.keep k3).keep k4⟩, hLU, ?_, ?_⟩ kall ?_ hd'
  · show MomAt N _ m ownM' (replay (mom0 G.tab G.r G.t) (G.log ++ [D]))
    rw [replay_snoc]
    exact ma3.keep k4 fun b hb => by simp only [List.mem_cons, List.not_mem_nil, or_false]; exact fun z => LN (z ▸ hb)
  · intro b hb
    exact ⟨fun z => gN (z ▸ hb), fun z => dgN (z ▸ hb), fun z => LN (z ▸ hb), fun z => UN (z ▸ hb)⟩
  · intro b hb
    simp only [List.mem_cons] at hb
    rcases hb with rfl | rfl | rfl | rfl | hb
    · exact .inl (by simp)
    · exact .inl (by simp)
    · exact .inl (by simp)
    · exact .inl (by simp)
    · rcases gr3 b hb with z | z
      · exact .inl (by simp at z ⊢; simp [z])
      · exact (k12.fresh z).symm.imp (fun y => by simp at y; simp [y]) id
theorem ok_Game_redo (T : Txt K w mg N) : FnR Pw w K mg base (L2.CX Pw w) 13 N.Game_redo (sp_Game_redo K N) := by
  obtain ⟨fd, F, b⟩ := T.d_Game_redo
  exact mk_fn F b sc_Game_redo (fun vs H Q E h => by (repeat (first | (obtain ⟨rfl, _⟩ := h; rfl) | (obtain ⟨_, h⟩ := h)))) fun cdv A outer s H vs Q E hr h => ⟨t_Game_redo K N E, (by exact (pss_cons (ps_if (pt_cmpR (op_eqD hr.units) (SlX.pe_sl (pv 0)) (pe_lst pa_nil) (nomark _)) (pss_one (ps_raise rfl (takes_of rfl rfl rfl rfl) (pmk_no T.wx_Nothing T.g_Nothing T.n_super htop hr (by decide)))) pss_nil)
 (pss_cons (ps_set (i := 1) sc_Game_redo.nd rfl (Or.inl rfl) (pe_bm0 PySem.F.plainAttrs_list PySem.F.slot_list_pop PySem.F.type_list_pop mt_pop (SlX.pe_sl (pv 0))))
 (pss_cons (ps_expr (SlX.pe_methSl (SlX.pe_sl (pv 0)) T.c_Moment T.m_Moment_do (ok_Moment_do T) (hr.mono (by decide)) pass0 (pa_cons (pv 1) pa_nil)))
 (pss_cons (ps_expr (pe_bm PySem.F.plainAttrs_list PySem.F.slot_list_append PySem.F.type_list_append mt_append (SlX.pe_sl (pv 0)) (pa_cons (pv 1) pa_nil)))
 (pss_one (ps_ret (pv 1)))))))), pure_Game_redo T vs H Q E h⟩
end
end Sw
namespace Sw
open PySem PySem.Spec PyProof.Rows L2
open SX (S S_cat S_len S_inj)
open SlX (SlO SlR putS slH)
section
variable {K : PySem.W.Frag} {w : World} {mg : Str → Option Value} {N : Nm} {base : Heap}
def sp_Game_past (K : PySem.W.Frag) (N : Nm) : Sp := fun vs H Q E => ∃ (g : Addr) (own : List Addr) (G : GS) (n r k : Nat), vs = [.ref g, .int k] ∧ GameAt N H g own G ∧ GsOk n r G ∧ k ≤ G.log.length ∧
  ∀ H' f own', GameAt N H' f own' { G with log := G.log.take k, gone := [] } → Kp N [] H H' → (∀ b ∈ own', H b = none) → Q (.ref f) H'
def t_Game_past (K : PySem.W.Frag) (N : Nm) : TS :=
 (tSeq (tIfS (tNot (tTest (tChain rLeI rLeI (tC (.int 0)) (tVar 1) (tCB (rLenQ K) (tCons (SlX.tSl K (tVar 0) "its_log") tNil)))))
 tNever tNext)
 (tSeq (tAsg (StX.tMakeR N.Game (sp_Game_init K N) E0 (tCons (SlX.tSl K (tVar 0) "first_rule") (tCons (SlX.tSl K (tVar 0) "first_text") tNil))) (gName 2))
 (tSeq (SlX.sSl K (tVar 2) (L2.tSl (rSlL K) (SlX.tSl K (tVar 0) "its_log") tNoPart (tPart (tVar 1))) "its_log")
 (tSeq (SlX.sSl K (tVar 2) (SlX.tMethSl N.Game (sp_Game_moment_behind K N) E0 (tVar 0) (tCons (SlX.tSl K (tVar 2) "its_log") tNil)) "its_moment")
 (tRet (tVar 2))))))
theorem pure_Game_past (T : Txt K w mg N) (vs : List V) (H : Hp) (Q : VK) (E : XK) (h : sp_Game_past K N vs H Q E) : t_Game_past K N (Eo Q) (start nm_Game_past vs) H := by
  obtain ⟨g, own, G, n, r, k, rfl, ga, ok, hk, q⟩ := h
  obtain ⟨dg, a, L, U, m, ownM, rfl, sa, ra, ⟨lv, el, ld⟩, ⟨uv, eu, ud⟩, hLU, ma, ap⟩ := id ga
  obtain ⟨p1, s1⟩ := T.s_Game_first_rule
  obtain ⟨p2, s2⟩ := T.s_Game_first_text
  obtain ⟨p3, s3⟩ := T.s_Game_its_log
  obtain ⟨p5, s5⟩ := T.s_Game_its_moment
  have neRG := T.neRG
  have hr : G.r = r := ok.rr
  have hll := ld.length
  -- the test
  refine ⟨_, rfl, _, _, rfl, rfl, _, rfl, ?_⟩
  rw [decide_eq_true (Int.natCast_nonneg k)]
  refine ⟨_, rfl, g, _, dg, p3, _, 2, _, rfl, sa.slt, T.c_Game, s3, rfl, L, _, rfl, .inl (.of el), _, _, rfl, rfl, _, rfl, ?_⟩
  rw [decide_eq_true (show (k : Int) ≤ (lv.length : Int) by omega)]
  -- Game(..)
  refine ⟨_, rfl, g, _, dg, p1, _, 0, _, rfl, sa.slt, T.c_Game, s1, rfl, _, rfl, g, _, dg, p2, _, 1, _, rfl, sa.slt, T.c_Game, s2, rfl, fun f df hf hdf hne => ?_⟩
  have kM := (Kp.refl (N := N) (l := []) (H := H)).made (C := N.Game) hf hdf hne
  refine ⟨f, df, a, G.tab, G.r, G.t, rfl, newA_made hne, ra.keep kM, by rw [hr]; exact ok.r2, ok.ne, by rw [ok.len]; exact ok.n1, by rw [hr]; exact ok.ok, fun H1 own1 ga1 k1 fr1 => ⟨rfl, ?_⟩⟩
  have kk1 : Kp N [] H H1 := kM.trans k1 (fun _ h => .inl h) fun b hb => by
    simp only [List.mem_cons, List.not_mem_nil, or_false] at hb
    rcases hb with rfl | rfl
    · exact .inr hf
    · exact .inr hdf
  have fr : ∀ b ∈ own1, H b = none := fun b hb => by
    rcases fr1 b hb with rfl | rfl | z
    · exact hf
    · exact hdf
    · exact (kM.fresh z).resolve_right (by simp)
  obtain ⟨df', a', L', U', m', ownM', rfl, sf, rf, ⟨lv', el', ld'⟩, ⟨uv', eu', ud'⟩, hLU', mf, apf⟩ := id ga1
  have npf : ∀ {us : List (Option V)}, ¬ Prm N (SlO f N.Game df' us) := not_prm_slo (Ne.symm neRG)
  have sa1 := sa.keep kk1 (by simp)
  have el1 := kk1 _ _ el (.inl (by simp))
  have ld1 := ld.keep kk1
  have fL' := fr L' (by simp)
  have fU' := fr U' (by simp)
  have ff := fr f (by simp)
  have fdf := fr df' (by simp)
  -- found.its_log = self.its_log[:many]
  refine ⟨_, rfl, g, _, dg, p3, _, 2, _, rfl, sa1.slt, T.c_Game, s3, rfl, _, rfl, _, rfl, L, lv, rfl, .of el1, fun nl hnl => ?_⟩
  have e1 : cutV lv none (some (k : Int)) = lv.take k := by
    have := cutL_to lv (k := (k : Int)) (by omega)
    rw [cutV_L, this]
    rfl
  rw [e1]
  have k2 : Kp N [] H1 (upd H1 nl (.lst (lv.take k))) := Kp.refl.new hnl
  have enl : (upd H1 nl (.lst (lv.take k))) nl = some (.lst (lv.take k)) := upd_same
  have sf2 := sf.keep k2 (by simp)
  have eu2 := k2 _ _ eu' (.inl (by simp))
  have ldk := (ld1.take k).keep k2
  have kk2 := kk1.then k2
  have fnl : H nl = none := (kk1.fresh hnl).resolve_right (by simp)
  have nlU : nl ≠ U' := Ne.symm (ne_of_none eu' hnl)
  have nlf : nl ≠ f := Ne.symm (ne_of_none sf.at_ hnl)
  have nldf : nl ≠ df' := Ne.symm (ne_of_none sf.dx hnl)
  generalize upd H1 nl (.lst (lv.take k)) = H2 at *
  refine ⟨_, rfl, f, _, df', p3, _, 2, rfl, sf2.slt, T.c_Game, s3, ?_⟩
  have k3 : Kp N [f] H2 (slH H2 f N.Game df' (putS 2 (.ref nl) [some (.ref a'), some (.str (S G.t)), some (.ref L'), some (.ref m'), some (.ref U')])) := Kp.refl.slA sf2 npf (.inl (by simp))
  have sf3 : SlA (slH H2 f N.Game df' (putS 2 (.ref nl) [some (.ref a'), some (.str (S G.t)), some (.ref L'), some (.ref m'), some (.ref U')])) f N.Game df' [some (.ref a'), some (.str (S G.t)), some (.ref nl), some (.ref m'), some (.ref U')] := slA_put (Ne.symm sf2.ne)
  have kk3 : Kp N [] H (slH H2 f N.Game df' (putS 2 (.ref nl) [some (.ref a'), some (.str (S G.t)), some (.ref L'), some (.ref m'), some (.ref U')])) := kk2.trans k3 (fun _ h => .inl h) fun b hb => .inr (by rw [List.mem_singleton.mp hb]; exact ff)
  have enl3 := k3 _ _ enl (.inl (by simp [nlf]))
  have fU'ne : U' ≠ f := ne_of eu2 sf2.at_ (fun z => slO_lst z.symm)
  have eu3 := k3 _ _ eu2 (.inl (by simp [fU'ne]))
  have ldk3 := ldk.keep k3
  generalize slH H2 f N.Game df' (putS 2 (.ref nl) [some (.ref a'), some (.str (S G.t)), some (.ref L'), some (.ref m'), some (.ref U')]) = H3 at *
  have sa3 := sa.keep kk3 (by simp)
  -- found.its_moment = self.moment_behind(found.its_log)
  have ok0 : MomOk n r 0 (mom0 G.tab r G.t) := mom0_ok ok.tab ok.r2 ok.n0 ok.n1 ok.len ok.ok
  refine ⟨_, rfl, g, dg, _, rfl, sa3.slt, _, rfl, f, _, df', p3, _, 2, _, rfl, sf3.slt, T.c_Game, s3, rfl, ?_⟩
  refine ⟨g, dg, a, nl, _, G.tab, n, r, G.t, G.log.take k, rfl, sa3, ?_, ⟨_, enl3, ldk3⟩, ok0, fun d hd => ok.log d (List.mem_of_mem_take hd), by have := ok.sz; simp; omega, fun H4 m4 ownN ma4 k4 fr4 => ?_⟩
  · have := ra.keep kk3
    rw [hr] at this
    exact this
  have sf4 := sf3.keep k4 (by simp)
  refine ⟨_, rfl, f, _, df', p5, _, 3, rfl, sf4.slt, T.c_Game, s5, ?_⟩
  have k5 : Kp N [f] H4 (slH H4 f N.Game df' (putS 3 (.ref m4) [some (.ref a'), some (.str (S G.t)), some (.ref nl), some (.ref m'), some (.ref U')])) := Kp.refl.slA sf4 npf (.inl (by simp))
  have sf5 : SlA (slH H4 f N.Game df' (putS 3 (.ref m4) [some (.ref a'), some (.str (S G.t)), some (.ref nl), some (.ref m'), some (.ref U')])) f N.Game df' [some (.ref a'), some (.str (S G.t)), some (.ref nl), some (.ref m4), some (.ref U')] := slA_put (Ne.symm sf2.ne)
  have kk5 : Kp N [] H (slH H4 f N.Game df' (putS 3 (.ref m4) [some (.ref a'), some (.str (S G.t)), some (.ref nl), some (.ref m'), some (.ref U')])) := (kk3.then k4).trans k5 (fun _ h => .inl h) fun b hb => .inr (by rw [List.mem_singleton.mp hb]; exact ff)
  have fO : f ∉ ownN := fun z => by have := fr4 f z; rw [sf3.at_] at this; cases this
  have dfO : df' ∉ ownN := fun z => by have := fr4 df' z; rw [sf3.dx] at this; cases this
  have nlO : nl ∉ ownN := fun z => by have := fr4 nl z; rw [enl3] at this; cases this
  have UO : U' ∉ ownN := fun z => by have := fr4 U' z; rw [eu3] at this; cases this
  refine ⟨_, rfl, q _ f (f :: df' :: nl :: U' :: ownN) ⟨df', a', nl, U', m4, ownN, rfl, sf5, (rf.keep ((k2.up (m := [f])).then (k3.then (k4.up.then k5)))), ⟨_, k5 _ _ (k4 _ _ enl3 (.inl (by simp))) (.inl (by simp [nlf])), (ldk3.keep k4).keep k5⟩, ⟨uv', k5 _ _ (k4 _ _ eu3 (.inl (by simp))) (.inl (by simp [fU'ne])), ud'.keep ((k2.up (m := [f])).then (k3.then (k4.up.then k5)))⟩, nlU, ?_, ?_⟩ kk5 ?_⟩
  · show MomAt N _ m4 ownN (replay (mom0 G.tab G.r G.t) (G.log.take k))
    rw [hr]
    exact ma4.keep k5 fun b hb => by simp only [List.mem_cons, List.not_mem_nil, or_false]; exact fun z => fO (z ▸ hb)
  · intro b hb
    exact ⟨fun z => fO (z ▸ hb), fun z => dfO (z ▸ hb), fun z => nlO (z ▸ hb), fun z => UO (z ▸ hb)⟩
  · intro b hb
    simp only [List.mem_cons] at hb
    rcases hb with rfl | rfl | rfl | rfl | hb
    · exact ff
    · exact fdf
    · exact fnl
    · exact fU'
    · exact (kk3.fresh (fr4 b hb)).resolve_right (by simp)
theorem ok_Game_past (T : Txt K w mg N) : FnR Pw w K mg base CX0 15 N.Game_past (sp_Game_past K N) := by
  obtain ⟨fd, F, b⟩ := T.d_Game_past
  exact mk_fn F b sc_Game_past (fun vs H Q E h => by (repeat (first | (obtain ⟨rfl, _⟩ := h; rfl) | (obtain ⟨_, h⟩ := h)))) fun cdv A outer s H vs Q E hr h => ⟨t_Game_past K N, (PSs.nox (by exact (pss_cons (ps_if (pt_not (pt_chain op_le op_le pe_int (pv 1) (pe_callB call_len_seq rfl T.n_len bt_len (pa_cons (SlX.pe_sl (pv 0)) pa_nil)))) pss_never pss_nil)
 (pss_cons (ps_set (i := 2) sc_Game_past.nd rfl (Or.inl rfl) (StX.pe_makeR T.mk_Game (ok_Game_init T) (hr.mono (by decide)) rfl T.g_Game pass0 (pa_cons (SlX.pe_sl (pv 0)) (pa_cons (SlX.pe_sl (pv 0)) pa_nil))))
 (pss_cons (SlX.ps_sl (pv 2) (pe_slice sl_list (SlX.pe_sl (pv 0)) po_none (po_some (pv 1))))
 (pss_cons (SlX.ps_sl (pv 2) (SlX.pe_methSl (pv 0) T.c_Game T.m_Game_moment_behind (ok_Game_moment_behind T) (hr.mono (by decide)) pass0 (pa_cons (SlX.pe_sl (pv 2)) pa_nil)))
 (pss_one (ps_ret (pv 2))))))))), pure_Game_past T vs H Q E h⟩
def sp_Game_copied (K : PySem.W.Frag) (N : Nm) : Sp := fun vs H Q E => ∃ (g : Addr) (own : List Addr) (G : GS) (n r : Nat), vs = [.ref g] ∧ GameAt N H g own G ∧ GsOk n r G ∧
  ∀ H' f own', GameAt N H' f own' G → Kp N [] H H' → (∀ b ∈ own', H b = none) → Q (.ref f) H'
def t_Game_copied (K : PySem.W.Frag) (N : Nm) : TS :=
 (tSeq (tAsg (SlX.tMethSl N.Game (sp_Game_past K N) E0 (tVar 0) (tCons (tCB (rLenQ K) (tCons (SlX.tSl K (tVar 0) "its_log") tNil)) tNil)) (gName 1))
 (tSeq (SlX.sSl K (tVar 1) (tCB (rListQ K) (tCons (SlX.tSl K (tVar 0) "its_undone") tNil)) "its_undone")
 (tRet (tVar 1))))
theorem pure_Game_copied (T : Txt K w mg N) (vs : List V) (H : Hp) (Q : VK) (E : XK) (h : sp_Game_copied K N vs H Q E) : t_Game_copied K N (Eo Q) (start nm_Game_copied vs) H := by
  obtain ⟨g, own, G, n, r, rfl, ga, ok, q⟩ := h
  obtain ⟨dg, a, L, U, m, ownM, rfl, sa, ra, ⟨lv, el, ld⟩, ⟨uv, eu, ud⟩, hLU, ma, ap⟩ := id ga
  obtain ⟨p3, s3⟩ := T.s_Game_its_log
  obtain ⟨p4, s4⟩ := T.s_Game_its_undone
  have neRG := T.neRG
  refine ⟨_, rfl, g, dg, _, rfl, sa.slt, _, rfl, g, _, dg, p3, _, 2, _, rfl, sa.slt, T.c_Game, s3, rfl, L, _, rfl, .inl (.of el), ?_⟩
  rw [ld.length]
  refine ⟨g, _, G, n, r, G.log.length, rfl, ga, ok, Nat.le_refl _, fun H1 f own1 ga1 k1 fr1 => ?_⟩
  obtain ⟨df, a', L', U', m', ownM', rfl, sf, rf, ⟨lv', el', ld'⟩, ⟨uv', eu', ud'⟩, hLU', mf, apf⟩ := id ga1
  have npf : ∀ {us : List (Option V)}, ¬ Prm N (SlO f N.Game df us) := not_prm_slo (Ne.symm neRG)
  have sa1 := sa.keep k1 (by simp)
  have eu1 := k1 _ _ eu (.inl (by simp))
  refine ⟨_, rfl, g, _, dg, p4, _, 4, _, rfl, sa1.slt, T.c_Game, s4, rfl, U, _, rfl, .inl (.of eu1), fun nl hnl => ?_⟩
  have k2 : Kp N [] H1 (upd H1 nl (.lst uv)) := Kp.refl.new hnl
  have enl : (upd H1 nl (.lst uv)) nl = some (.lst uv) := upd_same
  have sf2 := sf.keep k2 (by simp)
  have nlf : nl ≠ f := Ne.symm (ne_of_none sf.at_ hnl)
  have nlL : L' ≠ nl := ne_of_none el' hnl
  have nldf : nl ≠ df := Ne.symm (ne_of_none sf.dx hnl)
  have Lf : L' ≠ f := ne_of el' sf.at_ (fun z => slO_lst z.symm)
  have fnl : H nl = none := (k1.fresh hnl).resolve_right (by simp)
  have nlM : ∀ b ∈ ownM', b ≠ nl := fun b hb z => by
    obtain ⟨o, e⟩ := mf.dom b hb
    rw [z, hnl] at e; cases e
  refine ⟨_, rfl, f, _, df, p4, _, 4, rfl, sf2.slt, T.c_Game, s4, _, rfl, ?_⟩
  have k3 : Kp N [f] (upd H1 nl (.lst uv)) (slH (upd H1 nl (.lst uv)) f N.Game df (putS 4 (.ref nl) [some (.ref a'), some (.str (S G.t)), some (.ref L'), some (.ref m'), some (.ref U')])) := Kp.refl.slA sf2 npf (.inl (by simp))
  have k13 := (k2.up (m := [f])).then k3
  have kk : Kp N [] H (slH (upd H1 nl (.lst uv)) f N.Game df (putS 4 (.ref nl) [some (.ref a'), some (.str (S G.t)), some (.ref L'), some (.ref m'), some (.ref U')])) := k1.trans k13 (fun _ h => .inl h) fun b hb => .inr (by rw [List.mem_singleton.mp hb]; exact fr1 f (by simp))
  refine q _ f (f :: df :: L' :: nl :: ownM') ⟨df, a', L', nl, m', ownM', rfl, slA_put (Ne.symm sf.ne), rf.keep k13, ⟨lv', k13 _ _ el' (.inl (by simp [Lf])), ?_⟩, ⟨uv, k3 _ _ enl (.inl (by simp [nlf])), ud.keep kk⟩, nlL, ?_, ?_⟩ kk ?_
  · have := ld'.keep k13
    rw [List.take_length] at this
    exact this
  · have e : MomAt N H1 m' ownM' (replay (mom0 G.tab G.r G.t) (G.log.take G.log.length)) := mf
    rw [List.take_length] at e
    exact e.keep k13 fun b hb => by simp only [List.mem_cons, List.not_mem_nil, or_false]; exact (apf b hb).1
  · intro b hb
    exact ⟨(apf b hb).1, (apf b hb).2.1, (apf b hb).2.2.1, nlM b hb⟩
  · intro b hb
    simp only [List.mem_cons] at hb
    rcases hb with rfl | rfl | rfl | rfl | hb
    · exact fr1 _ (by simp)
    · exact fr1 _ (by simp)
    · exact fr1 _ (by simp)
    · exact fnl
    · exact fr1 _ (by simp [hb])
theorem ok_Game_copied (T : Txt K w mg N) : FnR Pw w K mg base CX0 17 N.Game_copied (sp_Game_copied K N) := by
  obtain ⟨fd, F, b⟩ := T.d_Game_copied
  exact mk_fn F b sc_Game_copied (fun vs H Q E h => by (repeat (first | (obtain ⟨rfl, _⟩ := h; rfl) | (obtain ⟨_, h⟩ := h)))) fun cdv A outer s H vs Q E hr h => ⟨t_Game_copied K N, (PSs.nox (by exact (pss_cons (ps_set (i := 1) sc_Game_copied.nd rfl (Or.inl rfl) (SlX.pe_methSl (pv 0) T.c_Game T.m_Game_past (ok_Game_past T) (hr.mono (by decide)) pass0 (pa_cons (pe_callB call_len_seq rfl T.n_len bt_len (pa_cons (SlX.pe_sl (pv 0)) pa_nil)) pa_nil)))
 (pss_cons (SlX.ps_sl (pv 1) (pe_callTy call_list_of rfl T.n_list bt_list (pa_cons (SlX.pe_sl (pv 0)) pa_nil)))
 (pss_one (ps_ret (pv 1))))))), pure_Game_copied T vs H Q E h⟩
def sp_Game_eq (K : PySem.W.Frag) (N : Nm) : Sp := fun vs H Q E => ∃ (g g2 : Addr) (own own2 : List Addr) (G G2 : GS) (n r : Nat), vs = [.ref g, .ref g2] ∧ GameAt N H g own G ∧ GameAt N H g2 own2 G2 ∧ GsOk n r G ∧ GsOk n r G2 ∧ G.tab = G2.tab ∧ G.t = G2.t ∧ Q (.bl (decide (G.log = G2.log))) H
def t_Game_eq (K : PySem.W.Frag) (N : Nm) : TS :=
 (tSeq (tIfS (tOr (tNot (tB (tCB (SlX.rIsiSl K (.ref N.Game)) (tCons (tVar 1) (tCons (tC (.ref N.Game)) tNil))))) (tTest (tOp (rOwnNe K N.Rule (sp_Rule_eq K N) E0) (SlX.tSl K (tVar 0) "first_rule") (SlX.tSl K (tVar 1) "first_rule"))))
 tNever tNext)
 (tRet (tAndV (tOp rEqX (SlX.tSl K (tVar 0) "first_text") (SlX.tSl K (tVar 1) "first_text")) (tOp (rEqD K) (SlX.tSl K (tVar 0) "its_log") (SlX.tSl K (tVar 1) "its_log")))))
theorem pure_Game_eq (T : Txt K w mg N) (vs : List V) (H : Hp) (Q : VK) (E : XK) (h : sp_Game_eq K N vs H Q E) : t_Game_eq K N (Eo Q) (start nm_Game_eq vs) H := by
  obtain ⟨g, g2, own, own2, G, G2, n, r, rfl, ga, ga2, ok, ok2, e1, e2, q⟩ := h
  obtain ⟨dg, a, L, U, m, ownM, rfl, sa, ra, ⟨lv, el, ld⟩, ⟨uv, eu, ud⟩, hLU, ma, ap⟩ := id ga
  obtain ⟨dg2, a2, L2, U2, m2, ownM2, rfl, sa2, ra2, ⟨lv2, el2, ld2⟩, ⟨uv2, eu2, ud2⟩, hLU2, ma2, ap2⟩ := id ga2
  obtain ⟨p1, s1⟩ := T.s_Game_first_rule
  obtain ⟨p2, s2⟩ := T.s_Game_first_text
  obtain ⟨p3, s3⟩ := T.s_Game_its_log
  obtain ⟨dr, er⟩ := id ra
  obtain ⟨dr2, er2⟩ := id ra2
  refine ⟨_, rfl, g2, N.Game, dg2, _, _, true, rfl, rfl, fun w r => r, sa2.slt, T.c_Game, T.si_Game, T.kit_Game, _, rfl, if_f rfl ?_⟩
  refine ⟨_, rfl, g, _, dg, p1, _, 0, _, rfl, sa.slt, T.c_Game, s1, rfl, _, rfl, g2, _, dg2, p1, _, 0, _, rfl, sa2.slt, T.c_Game, s1, rfl, a, dr, _, a2, _, dr2, _, rfl, rfl, er.slt, er2.slt, T.nf_Rule, a, a2, G.tab, G.r, rfl, ra, ?_, true, rfl, _, rfl, if_f rfl ?_⟩
  · rw [e1, ok.rr, ← ok2.rr]; exact ra2
  refine ⟨_, rfl, g, _, dg, p2, _, 1, _, rfl, sa.slt, T.c_Game, s2, rfl, _, rfl, g2, _, dg2, p2, _, 1, _, rfl, sa2.slt, T.c_Game, s2, rfl, G.t, G2.t, rfl, rfl, _, rfl, ?_⟩
  rw [decide_eq_true e2]
  refine if_t rfl ⟨_, rfl, g, _, dg, p3, _, 2, _, rfl, sa.slt, T.c_Game, s3, rfl, _, rfl, g2, _, dg2, p3, _, 2, _, rfl, sa2.slt, T.c_Game, s3, rfl, _, _, .lst (.of el) (dp_deeds ld), .lst (.of el2) (dp_deeds ld2), (nice_log ok).shaped (by decide), (nice_log ok2).shaped (by decide), ?_⟩
  rw [eqv_deeds]
  exact q
theorem ok_Game_eq (T : Txt K w mg N) : FnR Pw w K mg base CX0 7 N.Game_eq (sp_Game_eq K N) := by
  obtain ⟨fd, F, b⟩ := T.d_Game_eq
  exact mk_fn F b sc_Game_eq (fun vs H Q E h => by (repeat (first | (obtain ⟨rfl, _⟩ := h; rfl) | (obtain ⟨_, h⟩ := h)))) fun cdv A outer s H vs Q E hr h => ⟨t_Game_eq K N, (PSs.nox (by exact (pss_cons (ps_if (PW.pt (pw_or (pt_not (pt_val (pe_callB (SlX.call_isiSl (.ref N.Game)) rfl T.n_isinstance bt_isinstance (pa_cons (pv 1) (pa_cons (pe_glob rfl T.g_Game rfl) pa_nil))))) (pw_or1 (pt_cmpR (op_ownNe T.ob_Rule T.ne_Rule T.eq_Rule T.fn_Rule_eq (ok_Rule_eq T) (hr.mono (by decide)) pass0) (SlX.pe_sl (pv 0)) (SlX.pe_sl (pv 1)) (nomark _))))) pss_never pss_nil)
 (pss_one (ps_ret (pe_and (pe_cmpR op_eqX (SlX.pe_sl (pv 0)) (SlX.pe_sl (pv 1)) (nomark _)) (pe_one (pe_cmpR (op_eqD hr.units) (SlX.pe_sl (pv 0)) (SlX.pe_sl (pv 1)) (nomark _))))))))), pure_Game_eq T vs H Q E h⟩
end
end Sw
namespace Sw
open PySem PySem.Spec PyProof.Rows L2
open SX (S S_cat S_len S_inj)
open SlX (SlO SlR putS slH)
section
variable {K : PySem.W.Frag} {w : World} {mg : Str → Option Value} {N : Nm} {base : Heap}
/-! # the law's own defs -/
def BagAt (H : Hp) (b cl : Addr) : Prop := ∃ (x0 x1 x2 : Int) (cs : List Int), H b = some (.lst [.int x0, .int x1, .int x2, .ref cl]) ∧ H cl = some (.lst (cs.map V.int)) ∧ 0 ≤ x0 ∧ 0 ≤ x1 ∧ x1 < 2147483647 ∧ 0 ≤ x2 ∧ (∀ c ∈ cs, 0 ≤ c) ∧ cs.length ≤ 63
theorem not_ints {x0 x1 x2 : V} {cl : Addr} {cs : List Int} : (HO.lst [x0, x1, x2, .ref cl]) ≠ .lst (cs.map V.int) := fun z => by
  have z' := HO.lst.inj z
  have : V.ref cl ∈ cs.map V.int := z' ▸ (by simp)
  obtain ⟨i, _, e⟩ := List.mem_map.mp this
  cases e
theorem BagAt.ne {H : Hp} {b cl : Addr} (h : BagAt H b cl) : b ≠ cl := by
  obtain ⟨x0, x1, x2, cs, eb, ec, _⟩ := h
  exact ne_of eb ec not_ints
theorem BagAt.keep {l : List Addr} {H H' : Hp} {b cl : Addr} (h : BagAt H b cl) (k : Kp N l H H') (h1 : b ∉ l) (h2 : cl ∉ l) : BagAt H' b cl := by
  obtain ⟨x0, x1, x2, cs, eb, ec, r⟩ := h
  exact ⟨x0, x1, x2, cs, k _ _ eb (.inl h1), k _ _ ec (.inl h2), r⟩
theorem BagAt.ne_ints {H : Hp} {b cl l : Addr} {hs : List Int} (h : BagAt H b cl) (e : H l = some (.lst (hs.map V.int))) : l ≠ b := by
  obtain ⟨x0, x1, x2, cs, eb, ec, r⟩ := h
  exact Ne.symm (ne_of eb e not_ints)
def sp_l_bag (K : PySem.W.Frag) (N : Nm) : Sp := fun vs H Q E => ∃ (a : Addr) (ns : List Int), vs = [.ref a] ∧ SqL K H a (ns.map V.int) ∧ ns.length ≤ 63 ∧ ∀ H' b cl, BagAt H' b cl → Kp N [] H H' → H b = none → H cl = none → Q (.ref b) H'
def t_l_bag (K : PySem.W.Frag) (N : Nm) : TS :=
 (tRet (tLst (tCons (tC (.int 0)) (tCons (tC (.int 1234567891)) (tCons (tC (.int 0)) (tCons (tLc (iList K (L2.tSl (rSlL K) (tVar 0) tNoPart (tPart (tC (.int 63))))) (gName 1) tYes (tCB rAbsI (tCons (tVar 1) tNil)) [1]) tNil))))))
theorem Kp.same {H H' : Hp} (k : Kp N [] H H') : Same H H' := fun b o e => k b o e (.inl (by simp))
theorem Kp.sq {H H' : Hp} {a : Addr} {xs : List V} (k : Kp N [] H H') (h : SqL K H a xs) : SqL K H' a xs := k.same.seq h
theorem pure_l_bag (T : Txt K w mg N) (vs : List V) (H : Hp) (Q : VK) (E : XK) (h : sp_l_bag K N vs H Q E) : t_l_bag K N (Eo Q) (start nm_l_bag vs) H := by
  obtain ⟨a, ns, rfl, sq, hl, q⟩ := h
  refine ⟨_, rfl, _, rfl, a, _, rfl, sq, fun p hp => ?_⟩
  have e1 : cutV (ns.map V.int) none (some 63) = ns.map V.int := by
    rw [cutV_L, cutL_to _ (by decide)]
    exact List.take_of_length_le (by rw [List.length_map]; exact hl)
  rw [e1]
  have k1 : Kp N [] H (upd H p (.lst (ns.map V.int))) := Kp.refl.new hp
  have ep : (upd H p (.lst (ns.map V.int))) p = some (.lst (ns.map V.int)) := upd_same
  generalize upd H p (.lst (ns.map V.int)) = H1 at *
  refine ⟨p, rfl, ⟨_, .of ep⟩, fun D hD => ?_⟩
  refine lc_acc walk_list (fun i acc H' => acc = ((ns.take i).map fun c => V.int (if c < 0 then -c else c)) ∧ Kp N [] H1 H') (by rw [List.length_map]; omega) ⟨rfl, Kp.refl.new hD⟩ (fun i acc H' r => by rw [r.1]; simp; omega) (fun i acc H' _ _ r => .of (r.2 _ _ ep (.inl (by simp)))) ?_ ?_
  · rintro i x acc H2 H' hi e z ⟨rfl, k⟩ ⟨rfl, hx⟩
    obtain ⟨s, hs1, rfl⟩ := int_at hx
    refine ⟨rfl, _, rfl, s, rfl, LcN.add e z ⟨?_, k.put hD⟩⟩
    rw [List.take_add_one, hs1]
    simp
  · rintro acc H2 e ⟨rfl, k⟩
    rw [List.length_map, List.take_of_length_le (Nat.le_refl _)] at e
    refine ⟨by show 4 ≤ sizeLine; decide, fun b hb => ?_⟩
    have kk : Kp N [] H H2 := k1.then k
    refine q _ b D ⟨0, 1234567891, 0, ns.map fun c => if c < 0 then -c else c, upd_same, ?_, by decide, by decide, by decide, by decide, ?_, ?_⟩ (kk.new hb) ((kk.fresh hb).resolve_right (by simp)) ((k1.fresh hD).resolve_right (by simp))
    · rw [upd_ne (ne_of_none e hb), e, List.map_map]
      rfl
    · intro c hc
      obtain ⟨x, _, rfl⟩ := List.mem_map.mp hc
      split <;> omega
    · rw [List.length_map]; exact hl
theorem ok_l_bag (T : Txt K w mg N) : FnR Pw w K mg base CX0 4 N.l_bag (sp_l_bag K N) := by
  obtain ⟨fd, F, b⟩ := T.d_l_bag
  exact mk_fn F b sc_l_bag (fun vs H Q E h => by (repeat (first | (obtain ⟨rfl, _⟩ := h; rfl) | (obtain ⟨_, h⟩ := h)))) fun cdv A outer s H vs Q E hr h => ⟨t_l_bag K N, (PSs.nox (by exact (pss_one (ps_ret (pe_lst (pa_cons pe_int (pa_cons pe_int (pa_cons pe_int (pa_cons (pe_lc (own := [(("_law_cell" : Str), 1)]) (g := (gName 1)) (tt := tYes) rfl sc_l_bag.nd (pi_list (pe_slice sl_list (pv 0) po_none (po_some pe_int))) (blkOk_by (N := nm_l_bag) (sc := defScope s_l_bag) (by decide +kernel)) (fun _ _ _ _ _ => (pg_name (i := 1) sc_l_bag.nd rfl (Or.inl rfl))) (fun _ _ _ _ _ => pts_nil) (fun _ _ _ _ _ => (pe_callB call_abs rfl T.n_abs bt_abs (pa_cons (pv 1) pa_nil)))) pa_nil))))))))), pure_l_bag T vs H Q E h⟩
def sp_l_take (K : PySem.W.Frag) (N : Nm) : Sp := fun vs H Q E => ∃ (b cl : Addr) (m : Int), vs = [.ref b, .int m] ∧ BagAt H b cl ∧ 1 ≤ m ∧ m ≤ 1000000 ∧ ∀ (j : Nat) H', (j : Int) < m → BagAt H' b cl → Kp N [b] H H' → Q (.int j) H'
def t_l_take (K : PySem.W.Frag) (N : Nm) : TS :=
 (C8.tCut (tIfS (tTest (tOp rEqI (tOp (rIxL K) (tVar 0) (tC (.int 0))) (tC (.int 0))))
 (tSeq (tAsg (tC (.int 0)) (gName 4))
 (C8.tCut (tIfS (tTest (tOp rLtI (tOp (rIxL K) (tVar 0) (tC (.int 2))) (tCB (rLenQ K) (tCons (tOp (rIxL K) (tVar 0) (tC (.int 3))) tNil))))
 (tAsg (tOp (rIxL K) (tOp (rIxL K) (tVar 0) (tC (.int 3))) (tOp (rIxL K) (tVar 0) (tC (.int 2)))) (gName 4)) tNext)
 (tSeq (tAugS (tVar 0) (tC (.int 2)) (tC (.int 1)) (gtL K) (ipI fun i j => i + j) rSetL)
 (C8.tCut (tIfS (tTest (tOp rGeI (tVar 4) (tC (.int 1000000000000000000))))
 (tAsg (tVar 4) (gSub (tVar 0) (tC (.int 0)) rSetL)) tNext)
 (tSeq (tAsg (tOp rAddI (tOp rAddI (tOp rMulI (tOp (rIxL K) (tVar 0) (tC (.int 1))) (tC (.int 48271))) (tOp rModI (tCB rIntI (tCons (tVar 4) tNil)) (tC (.int 2147483647)))) (tOp rMulI (tC (.int 7919)) (tOp (rIxL K) (tVar 0) (tC (.int 2))))) (gName 5))
 (tAsg (tOp rModI (tCB rIntI (tCons (tVar 5) tNil)) (tC (.int 2147483647))) (gSub (tVar 0) (tC (.int 1)) rSetL))))))) tNext)
 (tSeq (tIfS (tTest (tOp rGtI (tOp (rIxL K) (tVar 0) (tC (.int 0))) (tC (.int 0))))
 (tSeq (tAsg (tOp rModI (tCB rIntI (tCons (tOp (rIxL K) (tVar 0) (tC (.int 0))) tNil)) (tVar 1)) (gName 6))
 (tSeq (tAsg (tOp rDivI (tOp (rIxL K) (tVar 0) (tC (.int 0))) (tVar 1)) (gSub (tVar 0) (tC (.int 0)) rSetL))
 (tRet (tVar 6)))) tNext)
 (tSeq (tAsg (tOp rModI (tCB rIntI (tCons (tOp rMulI (tOp rAddI (tOp (rIxL K) (tVar 0) (tC (.int 1))) (tC (.int 1))) (tC (.int 39373))) tNil)) (tC (.int 1000000007))) (gName 2))
 (tSeq (tAsg (tOp rModI (tCB rIntI (tCons (tOp rMulI (tOp rModI (tCB rIntI (tCons (tOp rMulI (tVar 2) (tVar 2)) tNil)) (tC (.int 998244353))) (tC (.int 30011))) tNil)) (tC (.int 998244353))) (gName 3))
 (tSeq (tIfS (tTest (tOp rGtI (tVar 1) (tC (.int 1000000))))
 tNever tNext)
 (tRet (tOp rModI (tCB rIntI (tCons (tOp rDivI (tVar 3) (tC (.int 7))) tNil)) (tVar 1))))))))
theorem pure_l_take (T : Txt K w mg N) (vs : List V) (H : Hp) (Q : VK) (E : XK) (h : sp_l_take K N vs H Q E) : t_l_take K N (Eo Q) (start nm_l_take vs) H := by
  obtain ⟨b, cl, m, rfl, bag, hm1, hm2, q⟩ := h
  refine ⟨fun σ H' => ∃ c x, σ = [some (.ref b), some (.int m), none, none, c, x, none] ∧ BagAt H' b cl ∧ Kp N [b] H H', ?_, ?_⟩
  · obtain ⟨x0, x1, x2, cs, eb, ec, h0, h1, h1', h2, hc, hz⟩ := id bag
    refine ⟨_, rfl, b, _, 0, _, rfl, rfl, .of eb, rfl, x0, 0, rfl, rfl, _, rfl, ?_⟩
    by_cases c0 : x0 = 0
    · refine if_t (decide_eq_true c0) ?_
      refine ⟨fun σ H' => ∃ c : Int, σ = [some (.ref b), some (.int m), none, none, some (.int c), none, none] ∧ 0 ≤ c ∧ H' = H, ?_, ?_⟩
      · refine ⟨_, rfl, b, _, 2, _, rfl, rfl, .of eb, rfl, _, rfl, b, _, 3, _, rfl, rfl, .of eb, rfl, cl, _, rfl, .inl (.of ec), _, _, rfl, rfl, _, rfl, ?_⟩
        by_cases c1 : x2 < ((cs.map V.int).length : Int)
        · refine if_t (decide_eq_true c1) ?_
          rw [List.length_map] at c1
          have hg : atI (cs.map V.int) x2 = some (.int (cs.getD x2.toNat 0)) := by
            unfold atI
            rw [ixN_in h2 (by rw [List.length_map]; exact c1), Option.bind_some, List.getElem?_map, List.getElem?_eq_getElem (by omega), List.getD_eq_getElem?_getD, List.getElem?_eq_getElem (by omega)]
            rfl
          refine ⟨_, rfl, b, _, 3, _, rfl, rfl, .of eb, rfl, _, rfl, b, _, 2, _, rfl, rfl, .of eb, rfl, cl, _, x2, _, rfl, rfl, .of ec, hg, _, rfl, hc _ ?_, rfl⟩
          rw [List.getD_eq_getElem?_getD, List.getElem?_eq_getElem (by omega)]
          exact List.getElem_mem _
        · exact if_f (decide_eq_false c1) ⟨0, rfl, Int.le_refl _, rfl⟩
      · rintro σ H' ⟨c, rfl, hc0, rfl⟩
        refine ⟨_, rfl, b, _, 2, _, rfl, rfl, by decide, .of eb, rfl, _, _, rfl, rfl, b, _, 2, 2, rfl, rfl, eb, rfl, ?_⟩
        have k1 : Kp N [b] H' (upd H' b (.lst ([.int x0, .int x1, .int x2, .ref cl].set 2 (.int (x2 + 1))))) := Kp.refl.lst eb (.inl (by simp))
        have eb1 : (upd H' b (.lst ([.int x0, .int x1, .int x2, .ref cl].set 2 (.int (x2 + 1))))) b = some (.lst [.int x0, .int x1, .int (x2 + 1), .ref cl]) := upd_same
        have ec1 := k1 _ _ ec (.inl (by simp [Ne.symm bag.ne]))
        generalize upd H' b (.lst ([.int x0, .int x1, .int x2, .ref cl].set 2 (.int (x2 + 1)))) = H1 at *
        refine ⟨fun σ H2 => ∃ y0 : Int, σ = [some (.ref b), some (.int m), none, none, some (.int c), none, none] ∧ 0 ≤ y0 ∧ H2 b = some (.lst [.int y0, .int x1, .int (x2 + 1), .ref cl]) ∧ Kp N [b] H' H2, ?_, ?_⟩
        · refine ⟨_, rfl, _, _, rfl, rfl, _, rfl, ?_⟩
          by_cases c1 : (1000000000000000000 : Int) ≤ c
          · refine if_t (decide_eq_true c1) ⟨_, rfl, _, rfl, b, _, 0, 0, rfl, rfl, eb1, rfl, c, rfl, hc0, upd_same, k1.lst eb1 (.inl (by simp))⟩
          · exact if_f (decide_eq_false c1) ⟨x0, rfl, h0, eb1, k1⟩
        · rintro σ H2 ⟨y0, rfl, hy, eb2, k2⟩
          refine ⟨_, rfl, b, _, 1, _, rfl, rfl, .of eb2, rfl, _, _, rfl, rfl, .inr (by decide), _, rfl, c, rfl, _, _, rfl, rfl, (by decide : (0 : Int) < 2147483647), _, _, rfl, rfl, ?_⟩
          refine ⟨_, rfl, b, _, 2, _, rfl, rfl, .of eb2, rfl, _, _, rfl, rfl, .inl (by decide), _, _, rfl, rfl, ?_⟩
          refine ⟨_, rfl, _, rfl, _, _, rfl, rfl, (by decide : (0 : Int) < 2147483647), _, rfl, b, _, 1, 1, rfl, rfl, eb2, rfl, ?_⟩
          refine ⟨_, _, rfl, ⟨y0, _, x2 + 1, cs, upd_same, ?_, hy, Int.emod_nonneg _ (by decide), Int.emod_lt_of_pos _ (by decide), by omega, hc, hz⟩, k2.lst eb2 (.inl (by simp))⟩
          rw [upd_ne (Ne.symm bag.ne)]
          exact k2 _ _ ec (.inl (by simp [Ne.symm bag.ne]))
    · exact if_f (decide_eq_false c0) ⟨none, none, rfl, bag, Kp.refl⟩
  · rintro σ H1 ⟨c, x, rfl, bag1, k1⟩
    obtain ⟨x0, x1, x2, cs, eb, ec, h0, h1, h1', h2, hc, hz⟩ := id bag1
    refine ⟨_, rfl, b, _, 0, _, rfl, rfl, .of eb, rfl, x0, 0, rfl, rfl, _, rfl, ?_⟩
    by_cases c0 : 0 < x0
    · refine if_t (decide_eq_true c0) ?_
      refine ⟨_, rfl, b, _, 0, _, rfl, rfl, .of eb, rfl, _, rfl, _, rfl, _, _, rfl, rfl, by omega, ?_⟩
      refine ⟨_, rfl, b, _, 0, _, rfl, rfl, .of eb, rfl, _, rfl, _, _, rfl, rfl, ⟨by omega, by omega⟩, _, rfl, b, _, 0, 0, rfl, rfl, eb, rfl, _, rfl, ?_⟩
      have n0 := Int.emod_nonneg x0 (b := m) (by omega)
      have n1 := Int.emod_lt_of_pos x0 (b := m) (by omega)
      have e : x0 % m = ((x0 % m).toNat : Int) := (Int.toNat_of_nonneg n0).symm
      show Q (.int (x0 % m)) _
      rw [e]
      refine q _ _ (by omega) ⟨x0 / m, x1, x2, cs, upd_same, ?_, Int.ediv_nonneg h0 (by omega), h1, h1', h2, hc, hz⟩ (k1.lst eb (.inl (by simp)))
      rw [upd_ne (Ne.symm bag1.ne)]
      exact ec
    · refine if_f (decide_eq_false c0) ?_
      refine ⟨_, rfl, b, _, 1, _, rfl, rfl, .of eb, rfl, _, _, rfl, rfl, _, _, rfl, rfl, .inr (by decide), _, rfl, _, _, rfl, rfl, (by decide : (0 : Int) < 1000000007), ?_⟩
      have m0 := Int.emod_nonneg ((x1 + 1) * 39373) (b := 1000000007) (by decide)
      have m1 := Int.emod_lt_of_pos ((x1 + 1) * 39373) (b := 1000000007) (by decide)
      refine ⟨_, rfl, _, rfl, _, _, rfl, rfl, .inl ⟨by omega, by omega⟩, _, rfl, _, _, rfl, rfl, (by decide : (0 : Int) < 998244353), _, _, rfl, rfl, .inr (by decide), _, rfl, _, _, rfl, rfl, (by decide : (0 : Int) < 998244353), ?_⟩
      refine ⟨_, rfl, _, _, rfl, rfl, _, rfl, if_f (decide_eq_false (by omega)) ?_⟩
      refine ⟨_, rfl, _, _, rfl, rfl, ⟨by decide, by decide⟩, _, rfl, _, rfl, _, _, rfl, rfl, by omega, ?_⟩
      generalize (((x1 + 1) * 39373 % 1000000007 * ((x1 + 1) * 39373 % 1000000007)) % 998244353 * 30011) % 998244353 / 7 = y
      have n0 := Int.emod_nonneg y (b := m) (by omega)
      have n1 := Int.emod_lt_of_pos y (b := m) (by omega)
      have e : y % m = ((y % m).toNat : Int) := (Int.toNat_of_nonneg n0).symm
      show Q (.int (y % m)) _
      rw [e]
      exact q _ _ (by omega) bag1 k1
theorem ok_l_take (T : Txt K w mg N) : FnR Pw w K mg base CX0 4 N.l_take (sp_l_take K N) := by
  obtain ⟨fd, F, b⟩ := T.d_l_take
  exact mk_fn F b sc_l_take (fun vs H Q E h => by (repeat (first | (obtain ⟨rfl, _⟩ := h; rfl) | (obtain ⟨_, h⟩ := h)))) fun cdv A outer s H vs Q E hr h => ⟨t_l_take K N, (PSs.nox (by exact (C8.pss_cut (ps_if (pt_cmpR op_eqI (pe_ix ix_list (pv 0) pe_int (fun _ _ => rfl)) pe_int (nomark _)) (pss_cons (ps_set (i := 4) sc_l_take.nd rfl (Or.inl rfl) pe_int)
 (C8.pss_cut (ps_if (pt_cmpR op_lt (pe_ix ix_list (pv 0) pe_int (fun _ _ => rfl)) (pe_callB call_len_seq rfl T.n_len bt_len (pa_cons (pe_ix ix_list (pv 0) pe_int (fun _ _ => rfl)) pa_nil)) (nomark _)) (pss_one (ps_set (i := 4) sc_l_take.nd rfl (Or.inl rfl) (pe_ix ix_list (pe_ix ix_list (pv 0) pe_int (fun _ _ => rfl)) (pe_ix ix_list (pv 0) pe_int (fun _ _ => rfl)) (fun _ _ => rfl)))) pss_nil)
 (pss_cons (ps_augS (pv 0) pe_int get_list pe_int ip_add set_list)
 (C8.pss_cut (ps_if (pt_cmpR op_ge (pv 4) pe_int (nomark _)) (pss_one (ps_asg (pv 4) (pg_sub (pv 0) pe_int set_list))) pss_nil)
 (pss_cons (ps_set (i := 5) sc_l_take.nd rfl (Or.inl rfl) (pe_op op_add (pe_op op_add (pe_op op_mul (pe_ix ix_list (pv 0) pe_int (fun _ _ => rfl)) pe_int) (pe_op op_mod (pe_callTy call_intI rfl T.n_int bt_int (pa_cons (pv 4) pa_nil)) pe_int)) (pe_op op_mul pe_int (pe_ix ix_list (pv 0) pe_int (fun _ _ => rfl)))))
 (pss_one (ps_asg (pe_op op_mod (pe_callTy call_intI rfl T.n_int bt_int (pa_cons (pv 5) pa_nil)) pe_int) (pg_sub (pv 0) pe_int set_list)))))))) pss_nil)
 (pss_cons (ps_if (pt_cmpR op_gt (pe_ix ix_list (pv 0) pe_int (fun _ _ => rfl)) pe_int (nomark _)) (pss_cons (ps_set (i := 6) sc_l_take.nd rfl (Or.inl rfl) (pe_op op_mod (pe_callTy call_intI rfl T.n_int bt_int (pa_cons (pe_ix ix_list (pv 0) pe_int (fun _ _ => rfl)) pa_nil)) (pv 1)))
 (pss_cons (ps_asg (pe_op op_fdiv (pe_ix ix_list (pv 0) pe_int (fun _ _ => rfl)) (pv 1)) (pg_sub (pv 0) pe_int set_list))
 (pss_one (ps_ret (pv 6))))) pss_nil)
 (pss_cons (ps_set (i := 2) sc_l_take.nd rfl (Or.inl rfl) (pe_op op_mod (pe_callTy call_intI rfl T.n_int bt_int (pa_cons (pe_op op_mul (pe_op op_add (pe_ix ix_list (pv 0) pe_int (fun _ _ => rfl)) pe_int) pe_int) pa_nil)) pe_int))
 (pss_cons (ps_set (i := 3) sc_l_take.nd rfl (Or.inl rfl) (pe_op op_mod (pe_callTy call_intI rfl T.n_int bt_int (pa_cons (pe_op op_mul (pe_op op_mod (pe_callTy call_intI rfl T.n_int bt_int (pa_cons (pe_op op_mul (pv 2) (pv 2)) pa_nil)) pe_int) pe_int) pa_nil)) pe_int))
 (pss_cons (ps_if (pt_cmpR op_gt (pv 1) pe_int (nomark _)) pss_never pss_nil)
 (pss_one (ps_ret (pe_op op_mod (pe_callTy call_intI rfl T.n_int bt_int (pa_cons (pe_op op_fdiv (pv 3) pe_int) pa_nil)) (pv 1))))))))))), pure_l_take T vs H Q E h⟩
end
end Sw
namespace Sw
open PySem PySem.Spec PyProof.Rows L2
open SX (S S_cat S_len S_inj)
open SlX (SlO SlR putS slH)
section
variable {K : PySem.W.Frag} {w : World} {mg : Str → Option Value} {N : Nm} {base : Heap}
def sp_l_alike (K : PySem.W.Frag) (N : Nm) : Sp := fun vs H Q E => ∃ (a b : Addr) (d : PyData) (n dp : Nat), vs = [.ref a, .ref b] ∧ Dp K H (.ref a) d ∧ Dp K H (.ref b) d ∧ Nice n dp d ∧ n ≤ 200000 ∧ dp ≤ 60 ∧ Q (.bl true) H
def t_l_alike (K : PySem.W.Frag) (N : Nm) : TS :=
 (tRet (tAndV (tOp (rEqD K) (tVar 0) (tVar 1)) (tOp rEqX (tCB (rRepr K) (tCons (tVar 0) tNil)) (tCB (rRepr K) (tCons (tVar 1) tNil)))))
theorem pure_l_alike (T : Txt K w mg N) (vs : List V) (H : Hp) (Q : VK) (E : XK) (h : sp_l_alike K N vs H Q E) : t_l_alike K N (Eo Q) (start nm_l_alike vs) H := by
  obtain ⟨a, b, d, n, dp, rfl, ha, hb, nc, hn, hdp, q⟩ := h
  refine ⟨_, rfl, _, rfl, d, d, ha, hb, nc.shaped hdp, nc.shaped hdp, ?_⟩
  rw [nc.refl]
  have hdd : d.depth < 64 := Nat.lt_of_le_of_lt (Nat.le_trans nc.depth hdp) (by decide)
  refine ⟨_, rfl, if_t rfl ⟨_, rfl, a, d, rfl, ha, nc.show_, nc.noDict, hdd, nc.fits hn, _, rfl, b, d, rfl, hb, nc.show_, nc.noDict, hdd, nc.fits hn, d.shown.cps.toList, d.shown.cps.toList, rfl, rfl, ?_⟩⟩
  rw [dec_rfl]
  exact q
theorem ok_l_alike (T : Txt K w mg N) : FnG Pw w K mg base CX0 4 N.l_alike (sp_l_alike K N) := by
  obtain ⟨fd, F, b⟩ := T.d_l_alike
  exact mk_fnG F b sc_l_alike (fun vs H Q E h => by (repeat (first | (obtain ⟨rfl, _⟩ := h; rfl) | (obtain ⟨_, h⟩ := h)))) fun cdv A outer s H vs Q E hr hG h => ⟨t_l_alike K N, (PSs.nox (by exact (pss_one (ps_ret (pe_and (pe_cmpR (op_eqD hr.units) (pv 0) (pv 1) (nomark _)) (pe_one (pe_cmpR op_eqX (pe_callB (call_repr hG hr.units) rfl T.n_repr bt_repr (pa_cons (pv 0) pa_nil)) (pe_callB (call_repr hG hr.units) rfl T.n_repr bt_repr (pa_cons (pv 1) pa_nil)) (nomark _)))))))), pure_l_alike T vs H Q E h⟩
def sp_l_mixed (K : PySem.W.Frag) (N : Nm) : Sp := fun vs H Q E => ∃ (b cl l : Addr) (hs : List Int), vs = [.ref b, .ref l] ∧ BagAt H b cl ∧ H l = some (.lst (hs.map V.int)) ∧ hs.length ≤ 100 ∧
  ∀ (hs' : List Int) p H', hs'.Perm hs → H' p = some (.lst (hs'.map V.int)) → H p = none → BagAt H' b cl → Kp N [b] H H' → Q (.ref p) H'
def t_l_mixed (K : PySem.W.Frag) (N : Nm) : TS :=
 (tSeq (tAsg (tLst tNil) (gName 2))
 (tSeq (tFor (iList K (tVar 1)) (gName 3)
 ((tDrop (tBM K "list" rIns (tVar 2) (tCons (tCl (sp_l_take K N) E0 (tCons (tVar 0) (tCons (tOp rAddI (tCB (rLenQ K) (tCons (tVar 2) tNil)) (tC (.int 1))) tNil))) (tCons (tVar 3) tNil))))))
 (tRet (tVar 2))))
theorem pure_l_mixed (T : Txt K w mg N) (vs : List V) (H : Hp) (Q : VK) (E : XK) (h : sp_l_mixed K N vs H Q E) : t_l_mixed K N (Eo Q) (start nm_l_mixed vs) H := by
  obtain ⟨b, cl, l, hs, rfl, bag, el, hz, q⟩ := h
  have lb := bag.ne_ints el
  refine ⟨by show 0 ≤ sizeLine; decide, fun F hF => ?_⟩
  have k0 : Kp N [b] H (upd H F (.lst [])) := Kp.refl.new hF
  have k00 : Kp N [] H (upd H F (.lst [])) := Kp.refl.new hF
  have Fb : F ≠ b := by
    obtain ⟨x0, x1, x2, cs, eb, _⟩ := id bag
    exact Ne.symm (ne_of_none eb hF)
  refine ⟨_, rfl, l, rfl, ⟨_, .of (k0 _ _ el (.inl (by simp [lb])))⟩, ?_⟩
  refine for_list (K := K) (a := l) (xs := hs.map V.int) (fun i σ H' => ∃ v fs, σ = [some (.ref b), some (.ref l), some (.ref F), v] ∧ H' F = some (.lst (fs.map V.int)) ∧ List.Perm fs (hs.take i) ∧ BagAt H' b cl ∧ Kp N [b] H H') ⟨none, [], rfl, upd_same, by simp, bag.keep k00 (by simp) (by simp), k0⟩ (fun i σ H' _ ⟨_, _, _, _, _, _, k⟩ => .of (k _ _ el (.inl (by simp [lb])))) ?_ ?_
  · rintro i x σ H1 hi ⟨v, fs, rfl, eF, hp, bag1, k1⟩
    obtain ⟨s, hs1, rfl⟩ := int_at hi
    have hil : i < hs.length := (List.getElem?_eq_some_iff.mp hs1).1
    have hfl : fs.length = i := by rw [hp.length_eq]; simp; omega
    refine ⟨_, rfl, .inl ⟨rfl, _, .of eF⟩, _, rfl, _, rfl, F, _, rfl, .inl (.of eF), _, _, rfl, rfl, b, cl, _, rfl, bag1, by rw [List.length_map]; omega, by rw [List.length_map]; omega, fun j H2 hj bag2 k2 => ?_⟩
    have eF2 := k2 _ _ eF (.inl (by simp [Fb]))
    refine ⟨_, rfl, F, _, j, _, rfl, rfl, eF2, size_ok (by rw [List.length_map]; omega), by omega, ?_, some (.int s), fs.take j ++ [s] ++ fs.drop j, rfl, ?_, ?_, bag2.keep (l := [F]) (N := N) ?_ (by simp [Ne.symm Fb]) ?_, (k1.then k2).put hF⟩
    · rw [List.length_map] at hj; omega
    · rw [upd_same]
      simp
    · rw [take_snoc hs1]
      refine List.Perm.trans ?_ (hp.append_right [s])
      have e : fs = fs.take j ++ fs.drop j := (List.take_append_drop j fs).symm
      conv => rhs; rw [e]
      rw [List.append_assoc, List.append_assoc]
      exact List.Perm.append_left _ (List.perm_append_comm)
    · exact Kp.refl.lst eF2 (.inl (by simp))
    · obtain ⟨x0, x1, x2, cs, eb, ec, _⟩ := id bag
      simp only [List.mem_cons, List.not_mem_nil, or_false]
      exact ne_of_none ec hF
  · rintro σ H1 ⟨v, fs, rfl, eF, hp, bag1, k1⟩
    rw [List.length_map, List.take_length] at hp
    exact ⟨_, rfl, q fs F H1 hp eF hF bag1 k1⟩
theorem ok_l_mixed (T : Txt K w mg N) : FnR Pw w K mg base CX0 5 N.l_mixed (sp_l_mixed K N) := by
  obtain ⟨fd, F, b⟩ := T.d_l_mixed
  exact mk_fn F b sc_l_mixed (fun vs H Q E h => by (repeat (first | (obtain ⟨rfl, _⟩ := h; rfl) | (obtain ⟨_, h⟩ := h)))) fun cdv A outer s H vs Q E hr h => ⟨t_l_mixed K N, (PSs.nox (by exact (pss_cons (ps_set (i := 2) sc_l_mixed.nd rfl (Or.inl rfl) (pe_lst pa_nil))
 (pss_cons (ps_for PassesOwn.never rfl (pi_list (pv 1)) (pg_name (i := 3) sc_l_mixed.nd rfl (Or.inl rfl))
 (pss_one (ps_expr (pe_bm PySem.F.plainAttrs_list PySem.F.slot_list_insert PySem.F.type_list_insert mt_insert (pv 2) (pa_cons (pe_cl (ok_l_take T) (hr.mono (by decide)) rfl T.g_l_take T.k_l_take pass0 (pa_cons (pv 0) (pa_cons (pe_op op_add (pe_callB call_len_seq rfl T.n_len bt_len (pa_cons (pv 2) pa_nil)) pe_int) pa_nil))) (pa_cons (pv 3) pa_nil))))))
 (pss_one (ps_ret (pv 2))))))), pure_l_mixed T vs H Q E h⟩
def sp_l_pick (K : PySem.W.Frag) (N : Nm) : Sp := fun vs H Q E => ∃ (b cl : Addr) (x : V), vs = [.ref b, x] ∧ BagAt H b cl ∧
  ((∃ l xs, x = .ref l ∧ l ≠ b ∧ H l = some (.lst xs) ∧ xs ≠ [] ∧ xs.length ≤ 1000 ∧ ∀ y H', y ∈ xs → BagAt H' b cl → Kp N [b] H H' → Q y H') ∨
   (∃ a : List Nat, x = .str (S a) ∧ a ≠ [] ∧ a.length ≤ 1000 ∧ ∀ c H', c ∈ a → BagAt H' b cl → Kp N [b] H H' → Q (.str (S [c])) H'))
def t_l_pick (K : PySem.W.Frag) (N : Nm) : TS :=
 (tRet (tOp (rIxSq K) (tVar 1) (tCl (sp_l_take K N) E0 (tCons (tVar 0) (tCons (tCB (rLenSq K) (tCons (tVar 1) tNil)) tNil)))))
theorem pure_l_pick (T : Txt K w mg N) (vs : List V) (H : Hp) (Q : VK) (E : XK) (h : sp_l_pick K N vs H Q E) : t_l_pick K N (Eo Q) (start nm_l_pick vs) H := by
  obtain ⟨b, cl, x, rfl, bag, h⟩ := h
  rcases h with ⟨l, xs, rfl, lb, el, hne, hz, q⟩ | ⟨a, rfl, hne, hz, q⟩
  · have hp := List.length_pos_iff.mpr hne
    refine ⟨_, rfl, _, rfl, _, rfl, .inl ⟨l, xs, rfl, .inl (.of el), b, cl, _, rfl, bag, by omega, by omega, fun j H1 hj bag1 k1 => .inl ⟨l, xs, _, xs[j]'(by omega), rfl, rfl, .of (k1 _ _ el (.inl (by simp [lb]))), atI_nat (List.getElem?_eq_getElem (by omega)), q _ _ (List.getElem_mem _) bag1 k1⟩⟩⟩
  · have hp := List.length_pos_iff.mpr hne
    refine ⟨_, rfl, _, rfl, _, rfl, .inr ⟨a, rfl, by omega, b, cl, _, rfl, bag, by omega, by omega, fun j H1 hj bag1 k1 => .inr ⟨a, _, a[j]'(by omega), rfl, rfl, by omega, atI_nat (List.getElem?_eq_getElem (by omega)), q _ _ (List.getElem_mem _) bag1 k1⟩⟩⟩
theorem ok_l_pick (T : Txt K w mg N) : FnR Pw w K mg base CX0 5 N.l_pick (sp_l_pick K N) := by
  obtain ⟨fd, F, b⟩ := T.d_l_pick
  exact mk_fn F b sc_l_pick (fun vs H Q E h => by (repeat (first | (obtain ⟨rfl, _⟩ := h; rfl) | (obtain ⟨_, h⟩ := h)))) fun cdv A outer s H vs Q E hr h => ⟨t_l_pick K N, (PSs.nox (by exact (pss_one (ps_ret (pe_ix ix_sq (pv 1) (pe_cl (ok_l_take T) (hr.mono (by decide)) rfl T.g_l_take T.k_l_take pass0 (pa_cons (pv 0) (pa_cons (pe_callB call_lenSq rfl T.n_len bt_len (pa_cons (pv 1) pa_nil)) pa_nil))) (fun _ _ => rfl)))))), pure_l_pick T vs H Q E h⟩
theorem BagAt.dom {H : Hp} {b cl : Addr} (h : BagAt H b cl) : (∃ o, H b = some o) ∧ ∃ o, H cl = some o := by
  obtain ⟨x0, x1, x2, cs, eb, ec, _⟩ := h
  exact ⟨⟨_, eb⟩, ⟨_, ec⟩⟩
theorem bag_put {H H' : Hp} {b cl D : Addr} {o : HO} (h : BagAt H b cl) (h' : BagAt H' b cl) (hD : H D = none) : BagAt (upd H' D o) b cl := by
  obtain ⟨⟨o1, e1⟩, ⟨o2, e2⟩⟩ := h.dom
  obtain ⟨x0, x1, x2, cs, eb, ec, r⟩ := h'
  exact ⟨x0, x1, x2, cs, (upd_ne (ne_of_none e1 hD)).trans eb, (upd_ne (ne_of_none e2 hD)).trans ec, r⟩
theorem bag_new {H : Hp} {b cl D : Addr} {o : HO} (h : BagAt H b cl) (hD : H D = none) : BagAt (upd H D o) b cl := bag_put h h hD
theorem bag_fresh {H : Hp} {b cl D : Addr} (h : BagAt H b cl) (hD : H D = none) : D ≠ b := by
  obtain ⟨⟨o1, e1⟩, _⟩ := h.dom
  exact Ne.symm (ne_of_none e1 hD)
theorem flat_one : ∀ t : List Nat, (t.map fun c => [c]).flatten = t
  | [] => rfl
  | c :: t => by rw [List.map_cons, List.flatten_cons, flat_one t]; rfl
theorem sum_ones : ∀ t : List Nat, ((t.map fun c => [c]).map (·.length)).sum = t.length
  | [] => rfl
  | c :: t => by
    rw [List.map_cons, List.map_cons, List.sum_cons, sum_ones t, List.length_cons (as := t)]
    show 1 + t.length = t.length + 1
    omega
theorem map_str (t : List Nat) : (t.map fun c => V.str (S [c])) = ((t.map fun c => [c]).map fun l => V.str (S l)) := by rw [List.map_map]; rfl
def sp_l_table (K : PySem.W.Frag) (N : Nm) : Sp := fun vs H Q E => ∃ (b cl : Addr), vs = [.ref b] ∧ BagAt H b cl ∧ ∀ tab H', OkTab tab → BagAt H' b cl → Kp N [b] H H' → Q (.str (S tab)) H'
def t_l_table (K : PySem.W.Frag) (N : Nm) : TS :=
 (tRet (tM1 (rJoinX K) (tC (.str (S []))) (tLc (iRng1 (tCons (tC (.int 4)) tNil)) (gName 1) tYes (tOp rIxX (tC (.str (S [48, 49]))) (tCl (sp_l_take K N) E0 (tCons (tVar 0) (tCons (tC (.int 2)) tNil)))) [1])))
/-- the four signs, drawn -/
theorem draw01 {g : TG} {σ σ1 : L2.St} {H : Hp} {b cl D : Addr} {Qd : Hp → Prop} {vs : List Nat} {tt : TT} {te : TE} (bag : BagAt H b cl) (hD : H D = none)
    (hs : ∀ i acc H', i < 4 → H' D = some (.lst acc) → acc.length < sizeLine → BagAt H' b cl → (∀ (c : Nat), (c = 48 ∨ c = 49) → ∀ H'', BagAt H'' b cl → Kp N [b] H' H'' → H'' D = some (.lst acc) → (∃ acc, H'' D = some (.lst acc) ∧ acc.length < sizeLine ∧ LcN D (fun i acc H' => ∃ t : List Nat, acc = (t.map fun c => V.str (S [c])) ∧ (∀ c ∈ t, c = 48 ∨ c = 49) ∧ t.length = i ∧ BagAt H' b cl ∧ Kp N [b] H H') (i + 1) (upd H'' D (.lst (acc ++ [.str (S [c])]))))) →
      g (.int (0 + (i : Nat))) (wipe σ vs) H' fun σ2 H2 => wipe σ2 vs = wipe σ vs ∧ tt σ2 H2 fun b' H3 =>
      if b' = true then te σ2 H3 fun y H4 => ∃ acc, H4 D = some (.lst acc) ∧ acc.length < sizeLine ∧ LcN D (fun i acc H' => ∃ t : List Nat, acc = (t.map fun c => V.str (S [c])) ∧ (∀ c ∈ t, c = 48 ∨ c = 49) ∧ t.length = i ∧ BagAt H' b cl ∧ Kp N [b] H H') (i + 1) (upd H4 D (.lst (acc ++ [y])))
        else LcN D (fun i acc H' => ∃ t : List Nat, acc = (t.map fun c => V.str (S [c])) ∧ (∀ c ∈ t, c = 48 ∨ c = 49) ∧ t.length = i ∧ BagAt H' b cl ∧ Kp N [b] H H') (i + 1) H3)
    (hd : ∀ t H', H' D = some (.lst (t.map fun c => V.str (S [c]))) → OkTab t → BagAt H' b cl → Kp N [b] H H' → Qd H') :
    ∃ W : Nat → Nat → Hp → Prop, (∃ m, W 0 m (upd H D (.lst []))) ∧ ∀ i m H, W i m H →
      ((Itr 0 4).stop i H ∧ Qd H) ∨ ((Itr 0 4).go i H ∧ ∃ Nx : Hp → Prop, (∀ H', Nx H' → ∃ m', m' < m ∧ W (i + 1) m' H') ∧ ∀ x H', (Itr 0 4).yld i H x H' → g x (wipe σ vs) H' fun σ2 H2 => wipe σ2 vs = wipe σ vs ∧ tt σ2 H2 fun b H3 =>
        if b = true then te σ2 H3 fun y H4 => ∃ acc, H4 D = some (.lst acc) ∧ acc.length < sizeLine ∧ Nx (upd H4 D (.lst (acc ++ [y]))) else Nx H3) := by
  refine lc_acc walk_range (fun i acc H' => ∃ t : List Nat, acc = (t.map fun c => V.str (S [c])) ∧ (∀ c ∈ t, c = 48 ∨ c = 49) ∧ t.length = i ∧ BagAt H' b cl ∧ Kp N [b] H H') (by decide) ⟨[], rfl, by simp, rfl, bag_new bag hD, Kp.refl.new hD⟩ (fun i acc H' r => by obtain ⟨t, rfl, _, e, _⟩ := r; rw [List.length_map]; omega) (fun _ _ _ _ _ _ => trivial) ?_ ?_
  · rintro i x acc H1 H' hi e z ⟨t, rfl, ht, hl, bag1, k1⟩ ⟨rfl, rfl⟩
    refine hs i _ _ hi e z bag1 fun c hc H2 bag2 k2 e2 => LcN.add e2 z ⟨t ++ [c], by simp, fun x hx => ?_, by simp [hl], bag_put bag bag2 hD, (k1.then k2).put hD⟩
    rcases List.mem_append.mp hx with q | q
    · exact ht x q
    · rw [List.mem_singleton.mp q]; exact hc
  · rintro acc H1 e ⟨t, rfl, ht, hl, bag1, k1⟩
    exact hd t H1 e ⟨hl, ht⟩ bag1 k1
theorem zero1 {j : Nat} (h : (j : Int) < 2) : ∃ c, atI [48, 49] ((j : Nat) : Int) = some c ∧ (c = 48 ∨ c = 49) := by
  have : j = 0 ∨ j = 1 := by omega
  rcases this with rfl | rfl
  · exact ⟨48, rfl, .inl rfl⟩
  · exact ⟨49, rfl, .inr rfl⟩
theorem pure_l_table (T : Txt K w mg N) (vs : List V) (H : Hp) (Q : VK) (E : XK) (h : sp_l_table K N vs H Q E) : t_l_table K N (Eo Q) (start nm_l_table vs) H := by
  obtain ⟨b, cl, rfl, bag, q⟩ := h
  refine ⟨⟨_, rfl⟩, 4, rfl, by decide, by decide, fun D hD => ?_⟩
  refine draw01 (N := N) (σ1 := []) bag hD ?_ ?_
  · intro i acc H' hi e z bag1 fin
    refine ⟨rfl, _, rfl, b, cl, 2, rfl, bag1, by decide, by decide, fun j H2 hj bag2 k2 => ?_⟩
    obtain ⟨c, hc, hc'⟩ := zero1 hj
    exact ⟨[48, 49], _, c, rfl, rfl, by decide, hc, fin c hc' H2 bag2 k2 (k2 _ _ e (.inl (by simp [bag_fresh bag hD])))⟩
  · intro t H1 e ht bag1 k1
    refine ⟨D, t.map fun c => [c], rfl, rfl, .inl (.inl ?_), by rw [sum_ones, ht.1]; decide, ?_⟩
    · rw [e, map_str]
    · rw [flat_one]
      exact q t H1 ht bag1 k1
theorem ok_l_table (T : Txt K w mg N) : FnR Pw w K mg base CX0 5 N.l_table (sp_l_table K N) := by
  obtain ⟨fd, F, b⟩ := T.d_l_table
  exact mk_fn F b sc_l_table (fun vs H Q E h => by (repeat (first | (obtain ⟨rfl, _⟩ := h; rfl) | (obtain ⟨_, h⟩ := h)))) fun cdv A outer s H vs Q E hr h => ⟨t_l_table K N, (PSs.nox (by exact (pss_one (ps_ret (pe_joinX (pe_lit (l := []) (by decide +kernel)) (pe_lc (own := [(("_law_k" : Str), 1)]) (g := (gName 1)) (tt := tYes) rfl sc_l_table.nd (pi_range1 rfl T.n_range (pa_cons pe_int pa_nil)) (blkOk_by (N := nm_l_table) (sc := defScope s_l_table) (by decide +kernel)) (fun _ _ _ _ _ => (pg_name (i := 1) sc_l_table.nd rfl (Or.inl rfl))) (fun _ _ _ _ _ => pts_nil) (fun _ _ _ _ _ => (pe_ix ix_x (pe_lit (l := [48, 49]) (by decide +kernel)) (pe_cl (ok_l_take T) (hr.mono (by decide)) rfl T.g_l_take T.k_l_take pass0 (pa_cons (pv 0) (pa_cons pe_int pa_nil))) (fun _ _ => rfl))))))))), pure_l_table T vs H Q E h⟩
def sp_l_rule (K : PySem.W.Frag) (N : Nm) : Sp := fun vs H Q E => ∃ (b cl : Addr), vs = [.ref b] ∧ BagAt H b cl ∧ ∀ tab (r : Nat) p H', OkTab tab → r ≤ 2 → H' p = some (.tup [.str (S tab), .int r]) → H p = none → BagAt H' b cl → Kp N [b] H H' → Q (.ref p) H'
def t_l_rule (K : PySem.W.Frag) (N : Nm) : TS :=
 (tSeq (tAsg (tM1 (rJoinX K) (tC (.str (S []))) (tLc (iRng1 (tCons (tC (.int 4)) tNil)) (gName 2) tYes (tOp rIxX (tC (.str (S [48, 49]))) (tCl (sp_l_take K N) E0 (tCons (tVar 0) (tCons (tC (.int 2)) tNil)))) [2])) (gName 1))
 (tRet (tTup (tCons (tOp (rIxL K) (tLst (tCons (tC (.str (S [48, 49, 49, 49]))) (tCons (tVar 1) (tCons (tVar 1) tNil)))) (tCl (sp_l_take K N) E0 (tCons (tVar 0) (tCons (tC (.int 3)) tNil)))) (tCons (tCl (sp_l_take K N) E0 (tCons (tVar 0) (tCons (tC (.int 3)) tNil))) tNil)))))
theorem pure_l_rule (T : Txt K w mg N) (vs : List V) (H : Hp) (Q : VK) (E : XK) (h : sp_l_rule K N vs H Q E) : t_l_rule K N (Eo Q) (start nm_l_rule vs) H := by
  obtain ⟨b, cl, rfl, bag, q⟩ := h
  refine ⟨⟨_, rfl⟩, 4, rfl, by decide, by decide, fun D hD => ?_⟩
  refine draw01 (N := N) (σ1 := []) bag hD ?_ ?_
  · intro i acc H' hi e z bag1 fin
    refine ⟨rfl, _, rfl, b, cl, 2, rfl, bag1, by decide, by decide, fun j H2 hj bag2 k2 => ?_⟩
    obtain ⟨c, hc, hc'⟩ := zero1 hj
    exact ⟨[48, 49], _, c, rfl, rfl, by decide, hc, fin c hc' H2 bag2 k2 (k2 _ _ e (.inl (by simp [bag_fresh bag hD])))⟩
  · intro t H1 e ht bag1 k1
    refine ⟨D, t.map fun c => [c], rfl, rfl, .inl (.inl ?_), by rw [sum_ones, ht.1]; decide, ?_⟩
    · rw [e, map_str]
    · rw [flat_one]
      refine ⟨_, rfl, _, rfl, by show 3 ≤ sizeLine; decide, fun L hL => ?_⟩
      have bag2 := bag_new (o := .lst [.str (S [48, 49, 49, 49]), .str (S t), .str (S t)]) bag1 hL
      have Lb := bag_fresh bag1 hL
      refine ⟨_, rfl, b, cl, 3, rfl, bag2, by decide, by decide, fun j H2 hj bag3 k3 => ?_⟩
      have eL := k3 _ _ (upd_same (H := H1) (a := L) (o := .lst [.str (S [48, 49, 49, 49]), .str (S t), .str (S t)])) (.inl (by simp [Lb]))
      obtain ⟨tb, htb, otb⟩ : ∃ tb, atI [V.str (S [48, 49, 49, 49]), .str (S t), .str (S t)] ((j : Nat) : Int) = some (.str (S tb)) ∧ OkTab tb := by
        have : j = 0 ∨ j = 1 ∨ j = 2 := by omega
        rcases this with rfl | rfl | rfl
        · exact ⟨_, rfl, by decide, by decide⟩
        · exact ⟨_, rfl, ht⟩
        · exact ⟨_, rfl, ht⟩
      refine ⟨L, _, _, _, rfl, rfl, .of eL, htb, _, rfl, b, cl, 3, rfl, bag3, by decide, by decide, fun r H4 hr bag4 k4 => ⟨by show 2 ≤ sizeLine; decide, fun p hp => ?_⟩⟩
      have kk : Kp N [b] H H4 := ((k1.then (Kp.new Kp.refl hL)).then k3).then k4
      exact q tb r p _ otb (by omega) upd_same ((kk.fresh hp).resolve_right (by simp [bag_fresh bag4 hp])) (bag_new bag4 hp) (kk.new hp)
theorem ok_l_rule (T : Txt K w mg N) : FnR Pw w K mg base CX0 5 N.l_rule (sp_l_rule K N) := by
  obtain ⟨fd, F, b⟩ := T.d_l_rule
  exact mk_fn F b sc_l_rule (fun vs H Q E h => by (repeat (first | (obtain ⟨rfl, _⟩ := h; rfl) | (obtain ⟨_, h⟩ := h)))) fun cdv A outer s H vs Q E hr h => ⟨t_l_rule K N, (PSs.nox (by exact (pss_cons (ps_set (i := 1) sc_l_rule.nd rfl (Or.inl rfl) (pe_joinX (pe_lit (l := []) (by decide +kernel)) (pe_lc (own := [(("_law_k" : Str), 2)]) (g := (gName 2)) (tt := tYes) rfl sc_l_rule.nd (pi_range1 rfl T.n_range (pa_cons pe_int pa_nil)) (blkOk_by (N := nm_l_rule) (sc := defScope s_l_rule) (by decide +kernel)) (fun _ _ _ _ _ => (pg_name (i := 2) sc_l_rule.nd rfl (Or.inl rfl))) (fun _ _ _ _ _ => pts_nil) (fun _ _ _ _ _ => (pe_ix ix_x (pe_lit (l := [48, 49]) (by decide +kernel)) (pe_cl (ok_l_take T) (hr.mono (by decide)) rfl T.g_l_take T.k_l_take pass0 (pa_cons (pv 0) (pa_cons pe_int pa_nil))) (fun _ _ => rfl))))))
 (pss_one (ps_ret (pe_tup (pa_cons (pe_ix ix_list (pe_lst (pa_cons (pe_lit (l := [48, 49, 49, 49]) (by decide +kernel)) (pa_cons (pv 1) (pa_cons (pv 1) pa_nil)))) (pe_cl (ok_l_take T) (hr.mono (by decide)) rfl T.g_l_take T.k_l_take pass0 (pa_cons (pv 0) (pa_cons pe_int pa_nil))) (fun _ _ => rfl)) (pa_cons (pe_cl (ok_l_take T) (hr.mono (by decide)) rfl T.g_l_take T.k_l_take pass0 (pa_cons (pv 0) (pa_cons pe_int pa_nil))) pa_nil)))))))), pure_l_rule T vs H Q E h⟩
def sp_l_text (K : PySem.W.Frag) (N : Nm) : Sp := fun vs H Q E => ∃ (b cl : Addr) (r most : Nat), vs = [.ref b, .int r, .int most] ∧ BagAt H b cl ∧ r ≤ 2 ∧ 1 ≤ most ∧ most ≤ 100 ∧ ∀ t H', t ≠ [] → t.length ≤ most → OkT r t → BagAt H' b cl → Kp N [b] H H' → Q (.str (S t)) H'
def t_l_text (K : PySem.W.Frag) (N : Nm) : TS :=
 (tSeq (tAsg (L2.tSl rSlX (tC (.str (S [48, 49, 50, 51]))) tNoPart (tPart (tOp rAddI (tVar 1) (tC (.int 2))))) (gName 3))
 (tRet (tM1 (rJoinX K) (tC (.str (S []))) (tLc (iRng1 (tCons (tOp rAddI (tC (.int 1)) (tCl (sp_l_take K N) E0 (tCons (tVar 0) (tCons (tVar 2) tNil)))) tNil)) (gName 4) tYes (tOp rIxX (tVar 3) (tCl (sp_l_take K N) E0 (tCons (tVar 0) (tCons (tCB rLenX (tCons (tVar 3) tNil)) tNil)))) [4]))))
theorem pure_l_text (T : Txt K w mg N) (vs : List V) (H : Hp) (Q : VK) (E : XK) (h : sp_l_text K N vs H Q E) : t_l_text K N (Eo Q) (start nm_l_text vs) H := by
  obtain ⟨b, cl, r, most, rfl, bag, hr, hm1, hm2, q⟩ := h
  refine ⟨_, rfl, _, _, rfl, rfl, _, rfl, [48, 49, 50, 51], rfl, by decide, ?_⟩
  rw [cutL_to _ (by omega)]
  have e : ((r : Int) + 2).toNat = 2 + r := by omega
  rw [e]
  have sl : 2 ≤ (sgn r).length := by
    unfold sgn
    rw [List.length_take]
    exact Nat.le_min.mpr ⟨by omega, by decide⟩
  have sl4 := sgn_len r
  refine ⟨⟨_, rfl⟩, _, rfl, _, rfl, b, cl, _, rfl, bag, by omega, by omega, fun m H1 hm bag1 k1 => ⟨_, _, rfl, rfl, _, rfl, by omega, by omega, fun D hD => ?_⟩⟩
  have em : ((1 : Int) + m).toNat = 1 + m := by omega
  rw [em]
  refine lc_acc walk_range (fun i acc H' => ∃ t : List Nat, acc = (t.map fun c => V.str (S [c])) ∧ OkT r t ∧ t.length = i ∧ BagAt H' b cl ∧ Kp N [b] H1 H') (by omega) ⟨[], rfl, (fun c hc => absurd hc (by simp)), rfl, bag_new bag1 hD, Kp.refl.new hD⟩ (fun i acc H' r => by obtain ⟨t, rfl, _, e, _⟩ := r; rw [List.length_map]; omega) (fun _ _ _ _ _ _ => trivial) ?_ ?_
  · rintro i x acc H2 H' hi e2 z ⟨t, rfl, ht, hl, bag2, k2⟩ ⟨rfl, rfl⟩
    refine ⟨rfl, _, rfl, _, rfl, _, rfl, sgn r, rfl, by omega, b, cl, _, rfl, bag2, by omega, by omega, fun j H3 hj bag3 k3 => ?_⟩
    refine ⟨sgn r, _, (sgn r)[j]'(by omega), rfl, rfl, by omega, atI_nat (List.getElem?_eq_getElem (by omega)), ?_⟩
    have e3 := k3 _ _ e2 (.inl (by simp [bag_fresh bag1 hD]))
    refine LcN.add e3 z ⟨t ++ [(sgn r)[j]'(by omega)], by simp, fun x hx => ?_, by simp [hl], bag_put bag1 bag3 hD, (k2.then k3).put hD⟩
    rcases List.mem_append.mp hx with y | y
    · exact ht x y
    · rw [List.mem_singleton.mp y]
      exact (mem_sgn hr).mp (List.getElem_mem _)
  · rintro acc H2 e2 ⟨t, rfl, ht, hl, bag2, k2⟩
    refine ⟨D, t.map fun c => [c], rfl, rfl, .inl (.inl ?_), by rw [sum_ones]; omega, ?_⟩
    · rw [e2, map_str]
    · rw [flat_one]
      refine q t H2 (fun z => by rw [z] at hl; simp at hl; omega) (by omega) ht bag2 (k1.then k2)
theorem ok_l_text (T : Txt K w mg N) : FnR Pw w K mg base CX0 5 N.l_text (sp_l_text K N) := by
  obtain ⟨fd, F, b⟩ := T.d_l_text
  exact mk_fn F b sc_l_text (fun vs H Q E h => by (repeat (first | (obtain ⟨rfl, _⟩ := h; rfl) | (obtain ⟨_, h⟩ := h)))) fun cdv A outer s H vs Q E hr h => ⟨t_l_text K N, (PSs.nox (by exact (pss_cons (ps_set (i := 3) sc_l_text.nd rfl (Or.inr rfl) (pe_slice sl_x (pe_lit (l := [48, 49, 50, 51]) (by decide +kernel)) po_none (po_some (pe_op op_add (pv 1) pe_int))))
 (pss_one (ps_ret (pe_joinX (pe_lit (l := []) (by decide +kernel)) (pe_lc (own := [(("_law_k" : Str), 4)]) (g := (gName 4)) (tt := tYes) rfl sc_l_text.nd (pi_range1 rfl T.n_range (pa_cons (pe_op op_add pe_int (pe_cl (ok_l_take T) (hr.mono (by decide)) rfl T.g_l_take T.k_l_take pass0 (pa_cons (pv 0) (pa_cons (pv 2) pa_nil)))) pa_nil)) (blkOk_by (N := nm_l_text) (sc := defScope s_l_text) (by decide +kernel)) (fun _ _ _ _ _ => (pg_name (i := 4) sc_l_text.nd rfl (Or.inl rfl))) (fun _ _ _ _ _ => pts_nil) (fun _ _ _ _ _ => (pe_ix ix_x (pv 3) (pe_cl (ok_l_take T) (hr.mono (by decide)) rfl T.g_l_take T.k_l_take pass0 (pa_cons (pv 0) (pa_cons (pe_callB call_lenX rfl T.n_len bt_len (pa_cons (pv 3) pa_nil)) pa_nil))) (fun _ _ => rfl)))))))))), pure_l_text T vs H Q E h⟩
def sp_l_signs (K : PySem.W.Frag) (N : Nm) : Sp := fun vs H Q E => ∃ (r : Nat), vs = [.int r] ∧ Q (.str (S (sgn r))) H
def t_l_signs (K : PySem.W.Frag) (N : Nm) : TS :=
 (tRet (L2.tSl rSlX (tC (.str (S [48, 49, 50, 51]))) tNoPart (tPart (tOp rAddI (tC (.int 2)) (tVar 0)))))
theorem pure_l_signs (T : Txt K w mg N) (vs : List V) (H : Hp) (Q : VK) (E : XK) (h : sp_l_signs K N vs H Q E) : t_l_signs K N (Eo Q) (start nm_l_signs vs) H := by
  obtain ⟨r, rfl, q⟩ := h
  refine ⟨_, rfl, _, _, rfl, rfl, _, rfl, [48, 49, 50, 51], rfl, by decide, ?_⟩
  rw [cutL_to _ (by omega)]
  have e : ((2 : Int) + r).toNat = 2 + r := by omega
  rw [e]
  exact q
theorem ok_l_signs (T : Txt K w mg N) : FnR Pw w K mg base CX0 4 N.l_signs (sp_l_signs K N) := by
  obtain ⟨fd, F, b⟩ := T.d_l_signs
  exact mk_fn F b sc_l_signs (fun vs H Q E h => by (repeat (first | (obtain ⟨rfl, _⟩ := h; rfl) | (obtain ⟨_, h⟩ := h)))) fun cdv A outer s H vs Q E hr h => ⟨t_l_signs K N, (PSs.nox (by exact (pss_one (ps_ret (pe_slice sl_x (pe_lit (l := [48, 49, 50, 51]) (by decide +kernel)) po_none (po_some (pe_op op_add pe_int (pv 0)))))))), pure_l_signs T vs H Q E h⟩
def sp_l_made_rule (K : PySem.W.Frag) (N : Nm) : Sp := fun vs H Q E => ∃ (p : Addr) (tab : List Nat) (r : Nat), vs = [.ref p] ∧ H p = some (.tup [.str (S tab), .int r]) ∧ OkTab tab ∧ r ≤ 2 ∧ ∀ x H', RuleAt N H' x tab r → Kp N [] H H' → Q (.ref x) H'
def t_l_made_rule (K : PySem.W.Frag) (N : Nm) : TS :=
 (tRet (StX.tMakeR N.Rule (sp_Rule_init K N) E0 (tCons (tOp (rIxT K) (tVar 0) (tC (.int 0))) (tCons (tOp (rIxT K) (tVar 0) (tC (.int 1))) tNil))))
theorem pure_l_made_rule (T : Txt K w mg N) (vs : List V) (H : Hp) (Q : VK) (E : XK) (h : sp_l_made_rule K N vs H Q E) : t_l_made_rule K N (Eo Q) (start nm_l_made_rule vs) H := by
  obtain ⟨p, tab, r, rfl, ep, ht, hr, q⟩ := h
  refine ⟨_, rfl, p, _, _, _, rfl, rfl, .of ep, rfl, _, rfl, p, _, _, _, rfl, rfl, .of ep, rfl, fun x dx hx hdx hne => ?_⟩
  have k1 := (Kp.refl (N := N) (l := []) (H := H)).made (C := N.Rule) hx hdx hne
  refine ⟨x, dx, tab, r, rfl, ht, hr, newA_made hne, fun H2 s2 k2 => ⟨rfl, q x H2 ⟨dx, s2⟩ (k1.trans k2 (fun _ h => .inl h) fun b hb => ?_)⟩⟩
  simp only [List.mem_cons, List.not_mem_nil, or_false] at hb
  rcases hb with rfl | rfl
  · exact .inr hx
  · exact .inr hdx
theorem ok_l_made_rule (T : Txt K w mg N) : FnR Pw w K mg base CX0 8 N.l_made_rule (sp_l_made_rule K N) := by
  obtain ⟨fd, F, b⟩ := T.d_l_made_rule
  exact mk_fn F b sc_l_made_rule (fun vs H Q E h => by (repeat (first | (obtain ⟨rfl, _⟩ := h; rfl) | (obtain ⟨_, h⟩ := h)))) fun cdv A outer s H vs Q E hr h => ⟨t_l_made_rule K N, (PSs.nox (by exact (pss_one (ps_ret (StX.pe_makeR T.mk_Rule (ok_Rule_init T) (hr.mono (by decide)) rfl T.g_Rule pass0 (pa_cons (pe_ix ix_tup (pv 0) pe_int (fun _ _ => rfl)) (pa_cons (pe_ix ix_tup (pv 0) pe_int (fun _ _ => rfl)) pa_nil))))))), pure_l_made_rule T vs H Q E h⟩
end
end Sw
namespace Sw
open PySem PySem.Spec PyProof.Rows L2
open SX (S S_cat S_len S_inj)
open SlX (SlO SlR putS slH)
section
variable {K : PySem.W.Frag} {w : World} {mg : Str → Option Value} {N : Nm} {base : Heap}
theorem at'_last {t : List Nat} (h : t ≠ []) {i : Nat} (hi : i < t.length) : atI t ((i : Int) - 1) = some (at' t ((i : Int) - 1)) := by
  have hp := List.length_pos_iff.mpr h
  rcases Nat.eq_zero_or_pos i with rfl | hi0
  · have e : (((0 : Nat) : Int) - 1) = -1 := by omega
    rw [e, atI_m1 h]
    have := ringRow_get h (i := 0) (by omega)
    rw [show (((0 : Nat) : Int) - 1) = -1 by omega] at this
    rw [← this]
    rfl
  · have e : ((i : Int) - 1) = ((i - 1 : Nat) : Int) := by omega
    rw [e, at'_nat (by omega), atI_getD (by omega) (by omega)]
    rfl
theorem at'_mod {t : List Nat} (h : t ≠ []) (i : Int) : atI t (i % (t.length : Int)) = some (at' t i) := by
  have hp := List.length_pos_iff.mpr h
  have h1 := Int.emod_nonneg i (b := (t.length : Int)) (by omega)
  have h2 := Int.emod_lt_of_pos i (b := (t.length : Int)) (by omega)
  rw [atI_getD h1 h2]
  rfl
theorem dec1 {x : Nat} : decide ([x] = [49]) = decide (x = 49) := by simp
def sp_l_beat (K : PySem.W.Frag) (N : Nm) : Sp := fun vs H Q E => ∃ (p : Addr) (tab : List Nat) (r : Nat) (t : List Nat), vs = [.ref p, .str (S t)] ∧ H p = some (.tup [.str (S tab), .int r]) ∧ OkTab tab ∧ r ≤ 2 ∧ t ≠ [] ∧ t.length ≤ 900 ∧ OkT r t ∧ ∀ H', Kp N [] H H' → Q (.str (S (beat tab r t))) H'
def t_l_beat (K : PySem.W.Frag) (N : Nm) : TS :=
 (tSeq (tAsg (tVar 0) (gTup K 2 (gCons (gName 3) (gCons (gName 4) gNil))))
 (tSeq (tAsg (tC (.str (S []))) (gName 2))
 (tSeq (tFor (iEnumS (tCons (tVar 1) tNil)) (gTup K 2 (gCons (gName 5) (gCons (gName 6) gNil)))
 ((tSeq (tAsg (tLst (tCons (tOp rIxX (tVar 1) (tOp rSubI (tVar 5) (tC (.int 1)))) (tCons (tOp rIxX (tVar 1) (tOp rModI (tCB rIntI (tCons (tOp rAddI (tVar 5) (tC (.int 1))) tNil)) (tCB rLenX (tCons (tVar 1) tNil)))) tNil))) (gName 7))
 (tIfS (tTest (tOp rEqX (tVar 6) (tC (.str (S [48])))))
 (tAsg (tOp rCatX (tVar 2) (tOp rIxX (tVar 3) (tCB rInt2 (tCons (tM1 (rJoinX K) (tC (.str (S []))) (tLc (iList K (tVar 7)) (gName 8) tYes (tCB rStrB (tCons (tCB rIntB (tCons (tOp rEqX (tVar 8) (tC (.str (S [49])))) tNil)) tNil)) [8])) (tCons (tC (.int 2)) tNil))))) (gName 2)) (tAsg (tOp rCatX (tVar 2) (tOp rIxX (tC (.str (S [48, 49, 50, 51]))) (tOp rModI (tCB rIntI (tCons (tOp rAddI (tCB rDig (tCons (tVar 6) tNil)) (tC (.int 1))) tNil)) (tOp rAddI (tVar 4) (tC (.int 2)))))) (gName 2))))))
 (tRet (tVar 2)))))
theorem pure_l_beat (T : Txt K w mg N) (vs : List V) (H : Hp) (Q : VK) (E : XK) (h : sp_l_beat K N vs H Q E) : t_l_beat K N (Eo Q) (start nm_l_beat vs) H := by
  obtain ⟨p, tab, r, t, rfl, ep, ht, hr, hne, hl, ok, q⟩ := h
  have hp := List.length_pos_iff.mpr hne
  refine ⟨_, rfl, p, _, rfl, .of ep, rfl, _, _, rfl, _, _, rfl, rfl, ?_⟩
  refine ⟨_, rfl, S t, rfl, ?_⟩
  have hn : (S t).cps.size = t.length := by show t.toArray.size = _; simp
  refine for_it walk_enumS (fun i σ H' => ∃ v5 v6 v7, σ = [some (.ref p), some (.str (S t)), some (.str (S ((List.range i).map fun (i : Nat) => cell tab r (at' t ((i : Int) - 1)) (at' t (i : Int)) (at' t ((i : Int) + 1))))), some (.str (S tab)), some (.int r), v5, v6, v7, none] ∧ Kp N [] H H') ⟨none, none, none, rfl, Kp.refl⟩ (fun _ _ _ _ _ => trivial) ?_ ?_
  · rintro i x σ H1 H' hi ⟨v5, v6, v7, rfl, k1⟩ ⟨tp, c, rfl, htp, rfl, hc⟩
    rw [hn] at hi
    have hc' : t[i]? = some c := by simpa [S] using hc
    have hcd : at' t (i : Int) = c := by rw [at'_nat hi, List.getD_eq_getElem?_getD, hc']; rfl
    have hcm : c ∈ t := List.mem_of_getElem? hc'
    have hcr := ok c hcm
    have k2 : Kp N [] H (upd H1 tp (.tup [.int (i : Nat), .str ⟨#[c]⟩])) := k1.new htp
    have etp : (upd H1 tp (.tup [.int (i : Nat), .str ⟨#[c]⟩])) tp = some (.tup [.int (i : Nat), .str ⟨#[c]⟩]) := upd_same
    generalize upd H1 tp (.tup [.int (i : Nat), .str ⟨#[c]⟩]) = H2 at *
    refine ⟨tp, _, rfl, .of etp, rfl, _, _, rfl, _, _, rfl, rfl, ?_⟩
    -- the sides
    refine ⟨_, rfl, _, rfl, _, _, rfl, rfl, t, _, _, rfl, rfl, by omega, at'_last hne hi, ?_⟩
    refine ⟨_, rfl, _, rfl, _, _, rfl, rfl, _, rfl, _, rfl, t, rfl, by omega, _, _, rfl, rfl, by omega, t, _, _, rfl, rfl, by omega, at'_mod hne _, by show 2 ≤ sizeLine; decide, fun L hL => ?_⟩
    have k3 : Kp N [] H (upd H2 L (.lst [.str (S [at' t ((i : Int) - 1)]), .str (S [at' t ((i : Int) + 1)])])) := k2.new hL
    have eL : (upd H2 L (.lst [.str (S [at' t ((i : Int) - 1)]), .str (S [at' t ((i : Int) + 1)])])) L = some (.lst [.str (S [at' t ((i : Int) - 1)]), .str (S [at' t ((i : Int) + 1)])]) := upd_same
    generalize upd H2 L (.lst [.str (S [at' t ((i : Int) - 1)]), .str (S [at' t ((i : Int) + 1)])]) = H3 at *
    have hlen : ((List.range i).map fun (i : Nat) => cell tab r (at' t ((i : Int) - 1)) (at' t (i : Int)) (at' t ((i : Int) + 1))).length = i := by simp
    refine ⟨_, rfl, [c], [48], rfl, rfl, _, rfl, ?_⟩
    rw [one_iff]
    by_cases c0 : c = 48
    · refine if_t (decide_eq_true c0) ?_
      refine ⟨_, rfl, _, rfl, ⟨_, rfl⟩, _, rfl, L, rfl, ⟨_, .of eL⟩, fun D hD => ?_⟩
      have wl : Walk (Itl K L) [V.str (S [at' t ((i : Int) - 1)]), .str (S [at' t ((i : Int) + 1)])].length (fun H => SqL K H L [V.str (S [at' t ((i : Int) - 1)]), .str (S [at' t ((i : Int) + 1)])]) (YAt [V.str (S [at' t ((i : Int) - 1)]), .str (S [at' t ((i : Int) + 1)])]) := walk_list
      refine lc_acc wl (fun j acc H' => acc = (([at' t ((i : Int) - 1), at' t ((i : Int) + 1)].take j).map fun x => V.str (S [if x = 49 then 49 else 48])) ∧ Kp N [] H3 H') (by show 2 ≤ 100000; decide) ⟨rfl, Kp.refl.new hD⟩ (fun j acc H' r => by rw [r.1]; simp; omega) (fun j acc H' _ _ r => .of (r.2 _ _ eL (.inl (by simp)))) ?_ ?_
      · rintro j x acc H4 H' hj e z ⟨rfl, k4⟩ ⟨rfl, hx⟩
        obtain ⟨y, hy, rfl⟩ : ∃ y, [at' t ((i : Int) - 1), at' t ((i : Int) + 1)][j]? = some y ∧ x = V.str (S [y]) := by
          have : j = 0 ∨ j = 1 := by
            have : j < 2 := hj
            omega
          rcases this with rfl | rfl
          · exact ⟨_, rfl, (Option.some.inj hx).symm⟩
          · exact ⟨_, rfl, (Option.some.inj hx).symm⟩
        refine ⟨rfl, _, rfl, [y], [49], rfl, rfl, _, rfl, decide ([y] = [49]), rfl, LcN.add e z ⟨?_, k4.put hD⟩⟩
        rw [take_snoc hy, List.map_append, dec1]
        by_cases c1 : y = 49 <;> simp [c1]
      · rintro acc H4 e ⟨rfl, k4⟩
        refine ⟨D, [[if at' t ((i : Int) - 1) = 49 then 49 else 48], [if at' t ((i : Int) + 1) = 49 then 49 else 48]], rfl, rfl, .of e, (by show 1 + (1 + 0) ≤ 1000000; decide), decide (at' t ((i : Int) - 1) = 49), decide (at' t ((i : Int) + 1) = 49), ?_, ?_⟩
        · by_cases c1 : at' t ((i : Int) - 1) = 49 <;> by_cases c2 : at' t ((i : Int) + 1) = 49 <;> simp [c1, c2, S2]
        · refine ⟨tab, _, tab.getD (2 * (if at' t ((i : Int) - 1) = 49 then 1 else 0) + (if at' t ((i : Int) + 1) = 49 then 1 else 0)) 0, rfl, rfl, by rw [ht.1]; decide, ?_, _, _, rfl, rfl, by simp; omega, some (.int i), some (.str (S [c])), some (.ref L), ?_, k3.then k4⟩
          · have hl4 : tab.length = 4 := ht.1
            by_cases c1 : at' t ((i : Int) - 1) = 49 <;> by_cases c2 : at' t ((i : Int) + 1) = 49 <;> simp only [c1, c2, decide_true, decide_false, if_true, if_false, Bool.false_eq_true] <;> refine (atI_getD (by decide) (by rw [hl4]; decide)).trans rfl
          · rw [range_snoc]
            have : cell tab r (at' t ((i : Int) - 1)) (at' t (i : Int)) (at' t ((i : Int) + 1)) = tab.getD (2 * (if at' t ((i : Int) - 1) = 49 then 1 else 0) + (if at' t ((i : Int) + 1) = 49 then 1 else 0)) 0 := by rw [hcd]; exact if_pos c0
            rw [this]
            rfl
    · refine if_f (decide_eq_false c0) ?_
      have cc : cell tab r (at' t ((i : Int) - 1)) (at' t (i : Int)) (at' t ((i : Int) + 1)) = (if c = 49 + r then 48 else c + 1) := by rw [hcd]; exact if_neg c0
      refine ⟨_, rfl, _, rfl, c, rfl, hcr.1, by omega, _, _, rfl, rfl, _, rfl, _, rfl, _, _, rfl, rfl, _, _, rfl, rfl, (by show (0 : Int) < (r : Int) + 2; omega), [48, 49, 50, 51], _, (if c = 49 + r then 48 else c + 1), rfl, rfl, by decide, ?_, _, _, rfl, rfl, by simp; omega, some (.int i), some (.str (S [c])), some (.ref L), ?_, k3⟩
      · by_cases c1 : c = 49 + r
        · rw [if_pos c1]
          have e : ((c : Int) - 48 + 1) % ((r : Int) + 2) = 0 := by
            have : ((c : Int) - 48 + 1) = (r : Int) + 2 := by omega
            rw [this]; exact Int.emod_self
          rw [e]; rfl
        · rw [if_neg c1]
          have e : ((c : Int) - 48 + 1) % ((r : Int) + 2) = (c : Int) - 47 := by
            have : ((c : Int) - 48 + 1) = (c : Int) - 47 := by omega
            rw [this]
            exact Int.emod_eq_of_lt (by omega) (by omega)
          rw [e]
          have : c = 49 ∨ c = 50 := by omega
          rcases this with rfl | rfl <;> rfl
      · rw [range_snoc, cc]
        rfl
  · rintro σ H1 ⟨v5, v6, v7, rfl, k1⟩
    rw [hn]
    exact ⟨_, rfl, q _ k1⟩
theorem ok_l_beat (T : Txt K w mg N) : FnR Pw w K mg base CX0 4 N.l_beat (sp_l_beat K N) := by
  obtain ⟨fd, F, b⟩ := T.d_l_beat
  exact mk_fn F b sc_l_beat (fun vs H Q E h => by (repeat (first | (obtain ⟨rfl, _⟩ := h; rfl) | (obtain ⟨_, h⟩ := h)))) fun cdv A outer s H vs Q E hr h => ⟨t_l_beat K N, (PSs.nox (by exact (pss_cons (ps_asg (pv 0) (pg_tup rfl (pgs_cons (pg_name (i := 3) sc_l_beat.nd rfl (Or.inl rfl)) (pgs_cons (pg_name (i := 4) sc_l_beat.nd rfl (Or.inl rfl)) pgs_nil))))
 (pss_cons (ps_set (i := 2) sc_l_beat.nd rfl (Or.inl rfl) (pe_lit (l := []) (by decide +kernel)))
 (pss_cons (ps_for PassesOwn.never rfl (pi_enumS rfl T.n_enumerate (pa_cons (pv 1) pa_nil)) (pg_tup rfl (pgs_cons (pg_name (i := 5) sc_l_beat.nd rfl (Or.inl rfl)) (pgs_cons (pg_name (i := 6) sc_l_beat.nd rfl (Or.inl rfl)) pgs_nil)))
 (pss_cons (ps_set (i := 7) sc_l_beat.nd rfl (Or.inl rfl) (pe_lst (pa_cons (pe_ix ix_x (pv 1) (pe_op op_sub (pv 5) pe_int) (fun _ _ => rfl)) (pa_cons (pe_ix ix_x (pv 1) (pe_op op_mod (pe_callTy call_intI rfl T.n_int bt_int (pa_cons (pe_op op_add (pv 5) pe_int) pa_nil)) (pe_callB call_lenX rfl T.n_len bt_len (pa_cons (pv 1) pa_nil))) (fun _ _ => rfl)) pa_nil))))
 (pss_one (ps_if (pt_cmpR op_eqX (pv 6) (pe_lit (l := [48]) (by decide +kernel)) (nomark _)) (pss_one (ps_set (i := 2) sc_l_beat.nd rfl (Or.inl rfl) (pe_op op_catX (pv 2) (pe_ix ix_x (pv 3) (pe_callTy call_int2 rfl T.n_int bt_int (pa_cons (pe_joinX (pe_lit (l := []) (by decide +kernel)) (pe_lc (own := [(("_law_one" : Str), 8)]) (g := (gName 8)) (tt := tYes) rfl sc_l_beat.nd (pi_list (pv 7)) (blkOk_by (N := nm_l_beat) (sc := defScope s_l_beat) (by decide +kernel)) (fun _ _ _ _ _ => (pg_name (i := 8) sc_l_beat.nd rfl (Or.inl rfl))) (fun _ _ _ _ _ => pts_nil) (fun _ _ _ _ _ => (pe_callTy call_strB rfl T.n_str bt_str (pa_cons (pe_callTy call_intB rfl T.n_int bt_int (pa_cons (pe_cmpR op_eqX (pv 8) (pe_lit (l := [49]) (by decide +kernel)) (nomark _)) pa_nil)) pa_nil))))) (pa_cons pe_int pa_nil))) (fun _ _ => rfl))))) (pss_one (ps_set (i := 2) sc_l_beat.nd rfl (Or.inl rfl) (pe_op op_catX (pv 2) (pe_ix ix_x (pe_lit (l := [48, 49, 50, 51]) (by decide +kernel)) (pe_op op_mod (pe_callTy call_intI rfl T.n_int bt_int (pa_cons (pe_op op_add (pe_callTy call_dig rfl T.n_int bt_int (pa_cons (pv 6) pa_nil)) pe_int) pa_nil)) (pe_op op_add (pv 4) pe_int)) (fun _ _ => rfl)))))))))
 (pss_one (ps_ret (pv 2)))))))), pure_l_beat T vs H Q E h⟩
def sp_l_turned (K : PySem.W.Frag) (N : Nm) : Sp := fun vs H Q E => ∃ (t : List Nat) (p : Int), vs = [.str (S t), .int p] ∧ t ≠ [] ∧ t.length ≤ 900 ∧ ∀ H', Kp N [] H H' → Q (.str (S (turned t p))) H'
def t_l_turned (K : PySem.W.Frag) (N : Nm) : TS :=
 (tRet (tM1 (rJoinX K) (tC (.str (S []))) (tLc (iRng1 (tCons (tCB rLenX (tCons (tVar 0) tNil)) tNil)) (gName 2) tYes (tOp rIxX (tVar 0) (tOp rModI (tCB rIntI (tCons (tOp rSubI (tVar 2) (tVar 1)) tNil)) (tCB rLenX (tCons (tVar 0) tNil)))) [2])))
theorem pure_l_turned (T : Txt K w mg N) (vs : List V) (H : Hp) (Q : VK) (E : XK) (h : sp_l_turned K N vs H Q E) : t_l_turned K N (Eo Q) (start nm_l_turned vs) H := by
  obtain ⟨t, p, rfl, hne, hl, q⟩ := h
  have hp := List.length_pos_iff.mpr hne
  refine ⟨⟨_, rfl⟩, _, rfl, t, rfl, by omega, _, rfl, by omega, by omega, fun D hD => ?_⟩
  have e2 : ((t.length : Nat) : Int).toNat = t.length := by omega
  rw [e2]
  refine lc_acc walk_range (fun i acc H' => acc = ((List.range i).map fun (i : Nat) => V.str (S [at' t ((i : Int) - p)])) ∧ Kp N [] H H') (by omega) ⟨rfl, Kp.refl.new hD⟩ (fun i acc H' r => by rw [r.1]; simp) (fun _ _ _ _ _ _ => trivial) ?_ ?_
  · rintro i x acc H1 H' hi e z ⟨rfl, k⟩ ⟨rfl, rfl⟩
    refine ⟨rfl, _, rfl, _, rfl, _, rfl, _, _, rfl, rfl, _, rfl, _, rfl, t, rfl, by omega, _, _, rfl, rfl, by omega, t, _, _, rfl, rfl, by omega, at'_mod hne _, LcN.add e z ⟨?_, k.put hD⟩⟩
    rw [range_snoc]
    have : (0 : Int) + i - p = i - p := by omega
    rw [this]
  · rintro acc H1 e ⟨rfl, k⟩
    refine ⟨D, (List.range t.length).map fun (i : Nat) => [at' t ((i : Int) - p)], rfl, rfl, .inl (.inl ?_), ?_, ?_⟩
    · rw [e, List.map_map]; rfl
    · rw [sum_one (f := fun (i : Nat) => at' t ((i : Int) - p))]; omega
    · rw [flat_map (f := fun (i : Nat) => at' t ((i : Int) - p))]
      exact q _ k
theorem ok_l_turned (T : Txt K w mg N) : FnR Pw w K mg base CX0 4 N.l_turned (sp_l_turned K N) := by
  obtain ⟨fd, F, b⟩ := T.d_l_turned
  exact mk_fn F b sc_l_turned (fun vs H Q E h => by (repeat (first | (obtain ⟨rfl, _⟩ := h; rfl) | (obtain ⟨_, h⟩ := h)))) fun cdv A outer s H vs Q E hr h => ⟨t_l_turned K N, (PSs.nox (by exact (pss_one (ps_ret (pe_joinX (pe_lit (l := []) (by decide +kernel)) (pe_lc (own := [(("_law_k" : Str), 2)]) (g := (gName 2)) (tt := tYes) rfl sc_l_turned.nd (pi_range1 rfl T.n_range (pa_cons (pe_callB call_lenX rfl T.n_len bt_len (pa_cons (pv 0) pa_nil)) pa_nil)) (blkOk_by (N := nm_l_turned) (sc := defScope s_l_turned) (by decide +kernel)) (fun _ _ _ _ _ => (pg_name (i := 2) sc_l_turned.nd rfl (Or.inl rfl))) (fun _ _ _ _ _ => pts_nil) (fun _ _ _ _ _ => (pe_ix ix_x (pv 0) (pe_op op_mod (pe_callTy call_intI rfl T.n_int bt_int (pa_cons (pe_op op_sub (pv 2) (pv 1)) pa_nil)) (pe_callB call_lenX rfl T.n_len bt_len (pa_cons (pv 0) pa_nil))) (fun _ _ => rfl))))))))), pure_l_turned T vs H Q E h⟩
def sp_l_held_beat (K : PySem.W.Frag) (N : Nm) : Sp := fun vs H Q E => ∃ (p : Addr) (tab : List Nat) (r : Nat) (t : List Nat) (l : Addr) (hs : List Int), vs = [.ref p, .str (S t), .ref l] ∧ H p = some (.tup [.str (S tab), .int r]) ∧ H l = some (.lst (hs.map V.int)) ∧ OkTab tab ∧ r ≤ 2 ∧ t ≠ [] ∧ t.length ≤ 900 ∧ OkT r t ∧
  ∀ H', Kp N [] H H' → Q (.str (S (hBeat tab r hs t))) H'
def t_l_held_beat (K : PySem.W.Frag) (N : Nm) : TS :=
 (tSeq (tAsg (tCl (sp_l_beat K N) E0 (tCons (tVar 0) (tCons (tVar 1) tNil))) (gName 3))
 (tRet (tM1 (rJoinX K) (tC (.str (S []))) (tLc (iRng1 (tCons (tCB rLenX (tCons (tVar 1) tNil)) tNil)) (gName 4) tYes (tIf (tTest (tOp (rIn K false) (tVar 4) (tVar 2))) (tC (.str (S [48]))) (tOp rIxX (tVar 3) (tVar 4))) [4]))))
theorem pure_l_held_beat (T : Txt K w mg N) (vs : List V) (H : Hp) (Q : VK) (E : XK) (h : sp_l_held_beat K N vs H Q E) : t_l_held_beat K N (Eo Q) (start nm_l_held_beat vs) H := by
  obtain ⟨p, tab, r, t, l, hs, rfl, ep, el, ht, hr, hne, hl, ok, q⟩ := h
  refine ⟨_, rfl, _, rfl, p, tab, r, t, rfl, ep, ht, hr, hne, hl, ok, fun H1 k1 => ?_⟩
  have el1 := k1 _ _ el (.inl (by simp))
  refine ⟨⟨_, rfl⟩, _, rfl, t, rfl, by omega, _, rfl, by omega, by omega, fun D hD => ?_⟩
  have e2 : ((t.length : Nat) : Int).toNat = t.length := by omega
  rw [e2]
  refine lc_acc walk_range (fun i acc H' => acc = ((List.range i).map fun (i : Nat) => V.str (S [if (i : Int) ∈ hs then 48 else (beat tab r t).getD i 0])) ∧ Kp N [] H1 H') (by omega) ⟨rfl, Kp.refl.new hD⟩ (fun i acc H' r => by rw [r.1]; simp) (fun _ _ _ _ _ _ => trivial) ?_ ?_
  · rintro i x acc H2 H' hi e z ⟨rfl, k⟩ ⟨rfl, rfl⟩
    have e0 : (0 : Int) + (i : Nat) = (i : Nat) := by omega
    refine ⟨rfl, _, rfl, _, rfl, l, _, rfl, .inl (.of (k _ _ el1 (.inl (by simp)))), rfl, flat_ints _, _, rfl, ?_⟩
    show if inV (V.int (0 + (i : Nat))) (hs.map V.int) = true then _ else _
    rw [inV_ints, e0]
    by_cases c1 : ((i : Nat) : Int) ∈ hs
    · refine if_t (decide_eq_true c1) (LcN.add e z ⟨?_, k.put hD⟩)
      rw [range_snoc, if_pos c1]
    · refine if_f (decide_eq_false c1) ⟨_, rfl, _, rfl, beat tab r t, _, _, rfl, rfl, by rw [beat_length]; omega, atI_getD (by omega) (by rw [beat_length]; omega), LcN.add e z ⟨?_, k.put hD⟩⟩
      rw [range_snoc, if_neg c1]
      have : ((0 : Int) + (i : Nat)).toNat = i := by omega
      rw [this]
  · rintro acc H2 e ⟨rfl, k⟩
    refine ⟨D, (List.range t.length).map fun (i : Nat) => [if (i : Int) ∈ hs then 48 else (beat tab r t).getD i 0], rfl, rfl, .inl (.inl ?_), ?_, ?_⟩
    · rw [e, List.map_map]; rfl
    · rw [sum_one (f := fun (i : Nat) => if (i : Int) ∈ hs then 48 else (beat tab r t).getD i 0)]; omega
    · rw [flat_map (f := fun (i : Nat) => if (i : Int) ∈ hs then 48 else (beat tab r t).getD i 0)]
      exact q _ (k1.then k)
theorem ok_l_held_beat (T : Txt K w mg N) : FnR Pw w K mg base CX0 5 N.l_held_beat (sp_l_held_beat K N) := by
  obtain ⟨fd, F, b⟩ := T.d_l_held_beat
  exact mk_fn F b sc_l_held_beat (fun vs H Q E h => by (repeat (first | (obtain ⟨rfl, _⟩ := h; rfl) | (obtain ⟨_, h⟩ := h)))) fun cdv A outer s H vs Q E hr h => ⟨t_l_held_beat K N, (PSs.nox (by exact (pss_cons (ps_set (i := 3) sc_l_held_beat.nd rfl (Or.inr rfl) (pe_cl (ok_l_beat T) (hr.mono (by decide)) rfl T.g_l_beat T.k_l_beat pass0 (pa_cons (pv 0) (pa_cons (pv 1) pa_nil))))
 (pss_one (ps_ret (pe_joinX (pe_lit (l := []) (by decide +kernel)) (pe_lc (own := [(("_law_seat" : Str), 4)]) (g := (gName 4)) (tt := tYes) rfl sc_l_held_beat.nd (pi_range1 rfl T.n_range (pa_cons (pe_callB call_lenX rfl T.n_len bt_len (pa_cons (pv 1) pa_nil)) pa_nil)) (blkOk_by (N := nm_l_held_beat) (sc := defScope s_l_held_beat) (by decide +kernel)) (fun _ _ _ _ _ => (pg_name (i := 4) sc_l_held_beat.nd rfl (Or.inl rfl))) (fun _ _ _ _ _ => pts_nil) (fun _ _ _ _ _ => (pe_ifExp (pt_cmpR op_in_seq (pv 4) (pv 2) (by with_unfolding_all rfl)) (pe_lit (l := [48]) (by decide +kernel)) (pe_ix ix_x (pv 3) (pv 4) (fun _ _ => rfl))))))))))), pure_l_held_beat T vs H Q E h⟩
def sp_l_seats (K : PySem.W.Frag) (N : Nm) : Sp := fun vs H Q E => ∃ (b cl : Addr) (t : List Nat), vs = [.ref b, .str (S t)] ∧ BagAt H b cl ∧ t.length ≤ 100 ∧ ∀ (hs : List Int) p H', Stub t hs → hs.length ≤ t.length → H' p = some (.lst (hs.map V.int)) → H p = none → BagAt H' b cl → Kp N [b] H H' → Q (.ref p) H'
def t_l_seats (K : PySem.W.Frag) (N : Nm) : TS :=
 (tSeq (tAsg (tLc (iEnumS (tCons (tVar 1) tNil)) (gTup K 2 (gCons (gName 3) (gCons (gName 4) gNil))) (tTest (tOp rEqX (tVar 4) (tC (.str (S [48]))))) (tVar 3) [3, 4]) (gName 2))
 (tRet (L2.tSl (rSlL K) (tCl (sp_l_mixed K N) E0 (tCons (tVar 0) (tCons (tVar 2) tNil))) tNoPart (tPart (tCl (sp_l_take K N) E0 (tCons (tVar 0) (tCons (tOp rAddI (tCB (rLenQ K) (tCons (tVar 2) tNil)) (tC (.int 1))) tNil)))))))
theorem pure_l_seats (T : Txt K w mg N) (vs : List V) (H : Hp) (Q : VK) (E : XK) (h : sp_l_seats K N vs H Q E) : t_l_seats K N (Eo Q) (start nm_l_seats vs) H := by
  obtain ⟨b, cl, t, rfl, bag, hl, q⟩ := h
  refine ⟨_, rfl, S t, rfl, fun D hD => ?_⟩
  have hn : (S t).cps.size = t.length := by show t.toArray.size = _; simp
  let zs : Nat → List Nat := fun i => (List.range i).filter fun j => decide (t.getD j 0 = 48)
  refine lc_acc walk_enumS (fun i acc H' => acc = ((zs i).map fun (j : Nat) => V.int (j : Int)) ∧ Kp N [] H H') (by rw [hn]; omega) ⟨rfl, Kp.refl.new hD⟩ (fun i acc H' r => by rw [r.1, List.length_map]; exact Nat.le_trans (List.length_filter_le _ _) (by simp)) (fun _ _ _ _ _ _ => trivial) ?_ ?_
  · rintro i x acc H1 H' hi e z ⟨rfl, k⟩ ⟨tp, c, rfl, htp, rfl, hc⟩
    rw [hn] at hi
    have hc' : t[i]? = some c := by simpa [S] using hc
    have hcd : t.getD i 0 = c := by rw [List.getD_eq_getElem?_getD, hc']; rfl
    have e' := (upd_ne (o := .tup [.int (i : Nat), .str ⟨#[c]⟩]) (ne_of_none e htp)).trans e
    have k' : Kp N [] H (upd H1 tp (.tup [.int (i : Nat), .str ⟨#[c]⟩])) := k.new htp
    refine ⟨tp, _, rfl, .of upd_same, rfl, _, _, rfl, _, _, rfl, rfl, rfl, _, rfl, [c], [48], rfl, rfl, _, rfl, ?_⟩
    rw [one_iff]
    have hz : zs (i + 1) = zs i ++ (if c = 48 then [i] else []) := by
      show (List.range (i + 1)).filter _ = _
      rw [List.range_succ, List.filter_append]
      by_cases c0 : c = 48 <;> simp [hc', c0, zs]
    by_cases c0 : c = 48
    · refine if_t (decide_eq_true c0) ⟨_, rfl, LcN.add e' z ⟨?_, k'.put hD⟩⟩
      rw [hz, if_pos c0, List.map_append]
      rfl
    · refine if_f (decide_eq_false c0) ⟨_, e', ?_, k'⟩
      rw [hz, if_neg c0, List.append_nil]
  · rintro acc H1 e ⟨rfl, k⟩
    rw [hn] at e
    have zl : (zs t.length).length ≤ t.length := Nat.le_trans (List.length_filter_le _ _) (by simp)
    have e1 : H1 D = some (.lst (((zs t.length).map fun (j : Nat) => (j : Int)).map V.int)) := by rw [e, List.map_map]; rfl
    refine ⟨_, rfl, _, rfl, b, cl, D, _, rfl, bag.keep k (by simp) (by simp), e1, by rw [List.length_map]; omega, fun hs p H2 hp ep np bag2 k2 => ?_⟩
    have Db : D ≠ b := bag_fresh bag hD
    have eD2 := k2 _ _ e1 (.inl (by simp [Db]))
    refine ⟨_, rfl, _, rfl, D, _, rfl, .inl (.of eD2), _, _, rfl, rfl, b, cl, _, rfl, bag2, by simp; omega, by simp; omega, fun j H3 hj bag3 k3 => ⟨_, rfl, p, _, rfl, .of (k3 _ _ ep (.inl ?_)), fun l3 hl3 => ?_⟩⟩
    · simp only [List.mem_cons, List.not_mem_nil, or_false]
      exact bag_fresh (bag.keep k (by simp) (by simp)) np
    have e2 : cutV (hs.map V.int) none (some (j : Int)) = (hs.take j).map V.int := by
      rw [cutV_L, cutL_to _ (by omega), List.map_take]
      rfl
    rw [e2]
    have kk : Kp N [b] H H3 := (k.up.then k2).then k3
    refine q (hs.take j) l3 _ ⟨?_, ?_⟩ ?_ upd_same ((kk.fresh hl3).resolve_right (by simp [bag_fresh bag3 hl3])) (bag_new bag3 hl3) (kk.new hl3)
    · refine List.Sublist.nodup (List.take_sublist j hs) (hp.nodup_iff.mpr ?_)
      refine List.Pairwise.map _ (fun a b h => ?_) (List.Sublist.nodup List.filter_sublist List.nodup_range)
      intro z; exact h (by omega)
    · intro s hs'
      have := hp.mem_iff.mp (List.mem_of_mem_take hs')
      obtain ⟨i, hi, rfl⟩ := List.mem_map.mp this
      have hi2 := List.mem_filter.mp hi
      have hi3 : i < t.length := List.mem_range.mp hi2.1
      have hi4 : t.getD i 0 = 48 := of_decide_eq_true hi2.2
      refine ⟨by omega, by omega, ?_⟩
      have : ((i : Nat) : Int).toNat = i := by omega
      rw [this]; exact hi4
    · have := hp.length_eq
      rw [List.length_map] at this
      rw [List.length_take]
      omega
theorem ok_l_seats (T : Txt K w mg N) : FnR Pw w K mg base CX0 6 N.l_seats (sp_l_seats K N) := by
  obtain ⟨fd, F, b⟩ := T.d_l_seats
  exact mk_fn F b sc_l_seats (fun vs H Q E h => by (repeat (first | (obtain ⟨rfl, _⟩ := h; rfl) | (obtain ⟨_, h⟩ := h)))) fun cdv A outer s H vs Q E hr h => ⟨t_l_seats K N, (PSs.nox (by exact (pss_cons (ps_setLc (own := [(("_law_seat" : Str), 3), (("_law_sign" : Str), 4)]) (g := (gTup K 2 (gCons (gName 3) (gCons (gName 4) gNil)))) (tt := (tTest (tOp rEqX (tVar 4) (tC (.str (S [48])))))) (i := 2) rfl sc_l_seats.nd rfl rfl (sw_true rfl rfl rfl (by decide +kernel)) (pi_enumS rfl T.n_enumerate (pa_cons (pv 1) pa_nil)) (blkOk_by (N := nm_l_seats) (sc := defScope s_l_seats) (by decide +kernel)) (fun _ _ _ _ _ => (pg_tup rfl (pgs_cons (pg_name (i := 3) sc_l_seats.nd rfl (Or.inl rfl)) (pgs_cons (pg_name (i := 4) sc_l_seats.nd rfl (Or.inl rfl)) pgs_nil)))) (fun _ _ _ _ _ => (pts_one (pt_cmpR op_eqX (pv 4) (pe_lit (l := [48]) (by decide +kernel)) (nomark _)))) (fun _ _ _ _ _ => (pv 3)))
 (pss_one (ps_ret (pe_slice sl_list (pe_cl (ok_l_mixed T) (hr.mono (by decide)) rfl T.g_l_mixed T.k_l_mixed pass0 (pa_cons (pv 0) (pa_cons (pv 2) pa_nil))) po_none (po_some (pe_cl (ok_l_take T) (hr.mono (by decide)) rfl T.g_l_take T.k_l_take pass0 (pa_cons (pv 0) (pa_cons (pe_op op_add (pe_callB call_len_seq rfl T.n_len bt_len (pa_cons (pv 2) pa_nil)) pe_int) pa_nil)))))))))), pure_l_seats T vs H Q E h⟩
end
end Sw
namespace Sw
open PySem PySem.Spec PyProof.Rows L2
open SX (S S_cat S_len S_inj)
open SlX (SlO SlR putS slH)
section
variable {K : PySem.W.Frag} {w : World} {mg : Str → Option Value} {N : Nm} {base : Heap}
/-- a moment as the law tells it -/
def MomV (H : Hp) (q sl : Addr) (M : Mom) : Prop := ∃ mp, H q = some (.tup [.ref mp, .str (S M.t), .ref sl, .int M.bt]) ∧ H mp = some (.tup [.str (S M.tab), .int M.r]) ∧ H sl = some (.lst (M.hs.map V.int))
theorem MomV.keep {l : List Addr} {H H' : Hp} {q sl : Addr} {M : Mom} (h : MomV H q sl M) (k : Kp N l H H') (hs : sl ∉ l) : MomV H' q sl M := by
  obtain ⟨mp, e1, e2, e3⟩ := h
  exact ⟨mp, k _ _ e1 (.inr Prm.tup), k _ _ e2 (.inr Prm.tup), k _ _ e3 (.inl hs)⟩
def tV : Deed → V
  | .beats k => .int k
  | .seat i _ => .int i
  | .turn p => .int p
  | .table tb => .str (S tb)
  | .hold i => .int i
  | .free i => .int i
theorem slice2 {H : Hp} {d : Addr} {D : Deed} {Q : VK} (e : H d = some (.tup (dV D))) (h : ∀ a H', Kp N [] H H' → H' a = some (.tup [.str (S (dW D)), tV D]) → Q (.ref a) H') : rSlA K (.ref d) none (some 2) H Q := by
  refine ⟨d, _, rfl, .of e, fun hw => ?_, fun hw p hp => ?_⟩
  · cases D with
    | seat i c => exact absurd hw (by simp [dV, HT.sIx])
    | beats k => exact h d H Kp.refl e
    | turn k => exact h d H Kp.refl e
    | table k => exact h d H Kp.refl e
    | hold k => exact h d H Kp.refl e
    | free k => exact h d H Kp.refl e
  · have : cutV (dV D) none (some 2) = [.str (S (dW D)), tV D] := by
      rw [cutV_L, cutL_to _ (by decide)]
      cases D <;> rfl
    rw [this]
    exact h p _ (Kp.refl.new hp) upd_same
def sp_l_moment (K : PySem.W.Frag) (N : Nm) : Sp := fun vs H Q E => ∃ (p : Addr) (tab : List Nat) (n r : Nat) (t : List Nat) (L : Addr) (ds : List Deed), vs = [.ref p, .str (S t), .ref L] ∧ H p = some (.tup [.str (S tab), .int r]) ∧ LogAt H L ds ∧ MomOk n r 0 (mom0 tab r t) ∧ (∀ d ∈ ds, Wf n r d) ∧ ds.length ≤ 500 ∧
  ∀ q sl H', MomV H' q sl (replay (mom0 tab r t) ds) → Kp N [] H H' → H sl = none → Q (.ref q) H'
def t_l_moment (K : PySem.W.Frag) (N : Nm) : TS :=
 (tSeq (tPar 4 5 (tCons (tLst tNil) (tCons (tC (.int 0)) tNil)))
 (tSeq (tFor (iList K (tVar 2)) (gName 3)
 ((tSeq (tAsg (L2.tSl (rSlA K) (tVar 3) tNoPart (tPart (tC (.int 2)))) (gTup K 2 (gCons (gName 6) (gCons (gName 7) gNil))))
 (tSeq (tIfS (tTest (tOp rEqX (tVar 6) (tC (.str (S [98, 101, 97, 116, 115])))))
 (tSeq (tFor (iRng1 (tCons (tVar 7) tNil)) (gName 8)
 ((tAsg (tCl (sp_l_held_beat K N) E0 (tCons (tVar 0) (tCons (tVar 1) (tCons (tVar 4) tNil)))) (gName 1))))
 (tAug 5 (tVar 7) (ipI fun i j => i + j))) tNext)
 (tSeq (tIfS (tTest (tOp rEqX (tVar 6) (tC (.str (S [115, 101, 97, 116])))))
 (tAsg (tOp rCatX (tOp rCatX (L2.tSl rSlX (tVar 1) tNoPart (tPart (tVar 7))) (tOp (rIxT K) (tVar 3) (tC (.int 2)))) (L2.tSl rSlX (tVar 1) (tPart (tOp rAddI (tVar 7) (tC (.int 1)))) tNoPart)) (gName 1)) tNext)
 (tSeq (tIfS (tTest (tOp rEqX (tVar 6) (tC (.str (S [116, 117, 114, 110])))))
 (tAsg (tTup (tCons (tCl (sp_l_turned K N) E0 (tCons (tVar 1) (tCons (tVar 7) tNil))) (tCons (tCB (rSortedI K) (tCons (tLc (iList K (tVar 4)) (gName 9) tYes (tOp rModI (tCB rIntI (tCons (tOp rAddI (tVar 9) (tVar 7)) tNil)) (tCB rLenX (tCons (tVar 1) tNil))) [9]) tNil)) tNil))) (gTup K 2 (gCons (gName 1) (gCons (gName 4) gNil)))) tNext)
 (tSeq (tIfS (tTest (tOp rEqX (tVar 6) (tC (.str (S [116, 97, 98, 108, 101])))))
 (tAsg (tTup (tCons (tVar 7) (tCons (tOp (rIxT K) (tVar 0) (tC (.int 1))) tNil))) (gName 0)) tNext)
 (tSeq (tIfS (tTest (tOp rEqX (tVar 6) (tC (.str (S [104, 111, 108, 100])))))
 (tAsg (tCB (rSortedI K) (tCons (tOp rCat (tVar 4) (tLst (tCons (tVar 7) tNil))) tNil)) (gName 4)) tNext)
 (tIfS (tTest (tOp rEqX (tVar 6) (tC (.str (S [102, 114, 101, 101])))))
 (tAsg (tLc (iList K (tVar 4)) (gName 9) (tTest (tOp rNeI (tVar 9) (tVar 7))) (tVar 9) [9]) (gName 4)) tNext)))))))))
 (tRet (tTup (tCons (tVar 0) (tCons (tVar 1) (tCons (tVar 4) (tCons (tVar 5) tNil))))))))
theorem pure_l_moment (T : Txt K w mg N) (vs : List V) (H : Hp) (Q : VK) (E : XK) (h : sp_l_moment K N vs H Q E) : t_l_moment K N (Eo Q) (start nm_l_moment vs) H := by
  obtain ⟨p, tab, n, r, t, L, ds, rfl, ep, ⟨lv, el, ld⟩, ok, wf, hds, q⟩ := h
  have hlen : lv.length = ds.length := ld.length
  refine ⟨by show 0 ≤ sizeLine; decide, fun s0 hs0 => ⟨_, _, rfl, ?_⟩⟩
  have k0 : Kp N [] H (upd H s0 (.lst [])) := Kp.refl.new hs0
  refine ⟨_, rfl, L, rfl, ⟨_, .of (k0 _ _ el (.inl (by simp)))⟩, ?_⟩
  let M : Nat → Mom := fun i => replay (mom0 tab r t) (ds.take i)
  let Pv : Nat → L2.St → Hp → Prop := fun i σ H' => ∃ mp sl v3 v6 v7 v8, σ = [some (.ref mp), some (.str (S (M i).t)), some (.ref L), v3, some (.ref sl), some (.int (M i).bt), v6, v7, v8, none] ∧ H' mp = some (.tup [.str (S (M i).tab), .int (M i).r]) ∧ H' sl = some (.lst ((M i).hs.map V.int)) ∧ H sl = none ∧ Kp N [] H H'
  refine for_list (K := K) (a := L) (xs := lv) Pv ⟨p, s0, none, none, none, none, rfl, k0 _ _ ep (.inl (by simp)), upd_same, hs0, k0⟩ (fun i σ H' _ ⟨_, _, _, _, _, _, _, _, _, _, k⟩ => .of (k _ _ el (.inl (by simp)))) ?_ ?_
  · rintro i x σ H1 hi ⟨mp, sl, v3, v6, v7, v8, rfl, emp, esl, nsl, k1⟩
    have hil : i < ds.length := by rw [← hlen]; exact (List.getElem?_eq_some_iff.mp hi).1
    have hd : ds[i]? = some ds[i] := List.getElem?_eq_getElem hil
    obtain ⟨d, e1, e2⟩ := ld.get hd
    rw [e1] at hi
    cases hi
    have oki : MomOk n r (0 + (ds.take i).length) (M i) := replay_ok ok fun d hd => wf d (List.mem_of_mem_take hd)
    have hM : M (i + 1) = ap (M i) ds[i] := by
      show replay _ (ds.take (i + 1)) = _
      rw [take_snoc hd, replay_snoc]
    have wfD : Wf n r ds[i] := wf _ (List.getElem_mem hil)
    have hcnt : 0 + (ds.take i).length ≤ 500 := by simp; omega
    have hhl := oki.hl
    have lenM := oki.len
    have n0 := oki.n0
    have n1 := oki.n1
    have hne : (M i).t ≠ [] := fun z => by rw [z] at lenM; simp at lenM; omega
    refine ⟨_, rfl, _, rfl, slice2 (N := N) (k1 _ _ e2 (.inl (by simp))) fun a H2 k2 ea => ?_⟩
    have kk := k1.then k2
    have emp2 := k2 _ _ emp (.inl (by simp))
    have esl2 := k2 _ _ esl (.inl (by simp))
    have ed2 := kk _ _ e2 (.inl (by simp))
    refine ⟨a, _, rfl, .of ea, rfl, _, _, rfl, _, _, rfl, rfl, ?_⟩
    refine ⟨_, rfl, _, _, rfl, rfl, _, rfl, ?_⟩
    generalize hDD : ds[i] = D at *
    clear hd e1 hDD
    generalize M i = m at *
    clear q
    cases D with
    | beats j =>
      have wj : 1 ≤ j ∧ j ≤ 50 := wfD
      refine if_t (by first | decide | simp [dW]) ⟨_, rfl, j, rfl, by omega, by omega, ?_⟩
      have em : ((j : Nat) : Int).toNat = j := by omega
      rw [em]
      refine for_range (fun i' σ H' => ∃ v, σ = [some (.ref mp), some (.str (S (itr (hBeat m.tab m.r m.hs) i' m.t))), some (.ref L), some (.ref d), some (.ref sl), some (.int m.bt), some (.str (S (dW (.beats j)))), some (.int j), v, none] ∧ Kp N [] H2 H') ⟨v8, rfl, Kp.refl⟩ ?_ ?_
      · rintro i' σ H3 hi' ⟨v, rfl, k3⟩
        refine ⟨_, rfl, _, rfl, _, rfl, mp, m.tab, m.r, _, sl, m.hs, rfl, k3 _ _ emp2 (.inl (by simp)), k3 _ _ esl2 (.inl (by simp)), oki.tab, by rw [oki.rr]; exact oki.r2, ?_, ?_, ?_, fun H4 k4 => ⟨_, rfl, k3.then k4⟩⟩
        · intro z
          have := congrArg List.length z
          rw [itr_hBeat_length] at this
          exact hne (List.length_eq_zero_iff.mp this)
        · rw [itr_hBeat_length]; omega
        · rw [oki.rr]; exact itr_hBeat_ok oki.tab oki.ok i'
      · rintro σ H3 ⟨v, rfl, k3⟩
        refine ⟨_, rfl, _, rfl, _, _, rfl, rfl, ?_⟩
        refine ⟨_, rfl, _, _, rfl, rfl, _, rfl, if_f (by first | decide | simp [dW]) ⟨_, rfl, _, _, rfl, rfl, _, rfl, if_f (by first | decide | simp [dW]) ⟨_, rfl, _, _, rfl, rfl, _, rfl, if_f (by first | decide | simp [dW]) ⟨_, rfl, _, _, rfl, rfl, _, rfl, if_f (by first | decide | simp [dW]) ⟨_, rfl, _, _, rfl, rfl, _, rfl, if_f (by first | decide | simp [dW]) ?_⟩⟩⟩⟩⟩
        refine ⟨mp, sl, some (.ref d), some (.str (S (dW (.beats j)))), some (.int j), v, ?_, ?_, ?_, nsl, kk.then k3⟩
        · rw [hM]; rfl
        · rw [hM]; exact k3 _ _ emp2 (.inl (by simp))
        · rw [hM]; exact k3 _ _ esl2 (.inl (by simp))
    | seat i' c =>
      have wi : i' < n ∧ 48 ≤ c ∧ c ≤ 49 + r := wfD
      refine if_f (by first | decide | simp [dW]) ⟨_, rfl, _, _, rfl, rfl, _, rfl, if_t (by first | decide | simp [dW]) ?_⟩
      refine ⟨_, rfl, _, rfl, _, rfl, _, rfl, by omega, ?_⟩
      rw [cutL_to _ (by omega)]
      refine ⟨_, rfl, d, _, _, _, rfl, rfl, .of ed2, rfl, _, _, rfl, rfl, by simp; omega, ?_⟩
      refine ⟨_, rfl, _, rfl, _, _, rfl, rfl, _, rfl, _, rfl, by omega, ?_⟩
      rw [cutL_from _ (by omega)]
      refine ⟨_, _, rfl, rfl, by simp; omega, ?_⟩
      have e1 : ((i' : Nat) : Int).toNat = i' := by omega
      have e2 : ((i' : Nat) + 1 : Int).toNat = i' + 1 := by omega
      rw [e1, e2]
      refine ⟨_, rfl, _, _, rfl, rfl, _, rfl, if_f (by first | decide | simp [dW]) ⟨_, rfl, _, _, rfl, rfl, _, rfl, if_f (by first | decide | simp [dW]) ⟨_, rfl, _, _, rfl, rfl, _, rfl, if_f (by first | decide | simp [dW]) ⟨_, rfl, _, _, rfl, rfl, _, rfl, if_f (by first | decide | simp [dW]) ?_⟩⟩⟩⟩
      refine ⟨mp, sl, some (.ref d), some (.str (S (dW (.seat i' c)))), some (.int i'), v8, ?_, ?_, ?_, nsl, kk⟩
      · rw [hM]; rfl
      · rw [hM]; exact emp2
      · rw [hM]; exact esl2
    | turn p' =>
      refine if_f (by first | decide | simp [dW]) ⟨_, rfl, _, _, rfl, rfl, _, rfl, if_f (by first | decide | simp [dW]) ⟨_, rfl, _, _, rfl, rfl, _, rfl, if_t (by first | decide | simp [dW]) ?_⟩⟩
      refine ⟨_, rfl, _, rfl, m.t, p', rfl, hne, by omega, fun H3 k3 => ?_⟩
      have esl3 := k3 _ _ esl2 (.inl (by simp))
      refine ⟨_, rfl, sl, rfl, ⟨_, .of esl3⟩, fun D hD => ?_⟩
      refine lc_acc walk_list (fun j acc H' => acc = ((m.hs.take j).map fun s => V.int ((s + p') % (m.t.length : Int))) ∧ Kp N [] H3 H') (by rw [List.length_map]; omega) ⟨rfl, Kp.refl.new hD⟩ (fun j acc H' r => by rw [r.1]; simp; omega) (fun j acc H' _ _ r => .of (r.2 _ _ esl3 (.inl (by simp)))) ?_ ?_
      · rintro j x acc H4 H' hj e2 z ⟨rfl, k4⟩ ⟨rfl, hx⟩
        obtain ⟨s, hs1, rfl⟩ := int_at hx
        refine ⟨rfl, _, rfl, _, rfl, _, _, rfl, rfl, _, rfl, _, rfl, m.t, rfl, by omega, _, _, rfl, rfl, by omega, LcN.add e2 z ⟨?_, k4.put hD⟩⟩
        rw [List.take_add_one, hs1]
        simp
      · rintro acc H4 e4 ⟨rfl, k4⟩
        rw [List.length_map, List.take_of_length_le (Nat.le_refl _)] at e4
        refine ⟨D, hTurn m.t.length p' m.hs, rfl, .of (by rw [e4]; unfold hTurn; rw [List.map_map]; rfl), fun ns' q1 hp hs hq1 => ?_⟩
        have e := srt_uniq hp hs
        subst e
        have eq1 : (upd H4 q1 (.lst ((srt (hTurn m.t.length p' m.hs)).map V.int))) q1 = some (.lst ((srt (hTurn m.t.length p' m.hs)).map V.int)) := upd_same
        have k5 : Kp N [] H (upd H4 q1 (.lst ((srt (hTurn m.t.length p' m.hs)).map V.int))) := ((kk.then k3).then k4).new hq1
        have nq1 : H q1 = none := (((kk.then k3).then k4).fresh hq1).resolve_right (by simp)
        have emp5 : (upd H4 q1 (.lst ((srt (hTurn m.t.length p' m.hs)).map V.int))) mp = some (.tup [.str (S m.tab), .int m.r]) := ((k3.then k4).new hq1) _ _ emp2 (.inl (by simp))
        generalize upd H4 q1 (.lst ((srt (hTurn m.t.length p' m.hs)).map V.int)) = H5 at *
        refine ⟨by show 2 ≤ sizeLine; decide, fun tp htp => ?_⟩
        refine ⟨tp, _, rfl, .of upd_same, rfl, _, _, rfl, _, _, rfl, rfl, ?_⟩
        have k6 : Kp N [] H5 (upd H5 tp (.tup [.str (S (turned m.t p')), .ref q1])) := Kp.refl.new htp
        refine ⟨_, rfl, _, _, rfl, rfl, _, rfl, if_f (by first | decide | simp [dW]) ⟨_, rfl, _, _, rfl, rfl, _, rfl, if_f (by first | decide | simp [dW]) ⟨_, rfl, _, _, rfl, rfl, _, rfl, if_f (by first | decide | simp [dW]) ?_⟩⟩⟩
        refine ⟨mp, q1, some (.ref d), some (.str (S (dW (.turn p')))), some (.int p'), v8, ?_, ?_, ?_, nq1, k5.then k6⟩
        · rw [hM]; rfl
        · rw [hM]; exact k6 _ _ emp5 (.inl (by simp))
        · rw [hM]; exact k6 _ _ eq1 (.inl (by simp))
    | table tb =>
      refine if_f (by first | decide | simp [dW]) ⟨_, rfl, _, _, rfl, rfl, _, rfl, if_f (by first | decide | simp [dW]) ⟨_, rfl, _, _, rfl, rfl, _, rfl, if_f (by first | decide | simp [dW]) ⟨_, rfl, _, _, rfl, rfl, _, rfl, if_t (by first | decide | simp [dW]) ?_⟩⟩⟩
      refine ⟨_, rfl, _, rfl, mp, _, _, _, rfl, rfl, .of emp2, rfl, by show 2 ≤ sizeLine; decide, fun tp htp => ?_⟩
      refine ⟨_, rfl, _, _, rfl, rfl, _, rfl, if_f (by first | decide | simp [dW]) ⟨_, rfl, _, _, rfl, rfl, _, rfl, if_f (by first | decide | simp [dW]) ?_⟩⟩
      refine ⟨tp, sl, some (.ref d), some (.str (S (dW (.table tb)))), some (.str (S tb)), v8, ?_, ?_, ?_, nsl, kk.new htp⟩
      · rw [hM]; rfl
      · rw [hM]; exact upd_same
      · rw [hM, upd_ne (ne_of_none esl2 htp)]; exact esl2
    | hold i' =>
      refine if_f (by first | decide | simp [dW]) ⟨_, rfl, _, _, rfl, rfl, _, rfl, if_f (by first | decide | simp [dW]) ⟨_, rfl, _, _, rfl, rfl, _, rfl, if_f (by first | decide | simp [dW]) ⟨_, rfl, _, _, rfl, rfl, _, rfl, if_f (by first | decide | simp [dW]) ⟨_, rfl, _, _, rfl, rfl, _, rfl, if_t (by first | decide | simp [dW]) ?_⟩⟩⟩⟩
      refine ⟨_, rfl, _, rfl, by show 1 ≤ sizeLine; decide, fun L1 hL1 => ?_⟩
      have k3 : Kp N [] H2 (upd H2 L1 (.lst [tV (.hold i')])) := Kp.refl.new hL1
      have e3 : (upd H2 L1 (.lst [tV (.hold i')])) L1 = some (.lst [.int i']) := upd_same
      have esl3 := k3 _ _ esl2 (.inl (by simp))
      have emp3 := k3 _ _ emp2 (.inl (by simp))
      generalize upd H2 L1 (.lst [tV (.hold i')]) = H3 at *
      refine ⟨sl, L1, _, _, rfl, rfl, esl3, e3, size_le (by simp; omega), fun L2' hL2 => ?_⟩
      have k4 : Kp N [] H3 (upd H3 L2' (.lst (m.hs.map V.int ++ [.int i']))) := Kp.refl.new hL2
      refine ⟨L2', m.hs ++ [(i' : Int)], rfl, .of (by rw [List.map_append]; exact upd_same), fun ns' q1 hp hs hq1 => ?_⟩
      have e := srt_uniq hp hs
      subst e
      have k5 := (k3.then k4).new (o := .lst ((srt (m.hs ++ [(i' : Int)])).map V.int)) hq1
      refine ⟨_, rfl, _, _, rfl, rfl, _, rfl, if_f (by first | decide | simp [dW]) ?_⟩
      refine ⟨mp, q1, some (.ref d), some (.str (S (dW (.hold i')))), some (.int i'), v8, ?_, ?_, ?_, ?_, kk.then k5⟩
      · rw [hM]; rfl
      · rw [hM]; exact k5 _ _ emp2 (.inl (by simp))
      · rw [hM]; exact upd_same
      · exact ((kk.then (k3.then k4)).fresh hq1).resolve_right (by simp)
    | free i' =>
      refine if_f (by first | decide | simp [dW]) ⟨_, rfl, _, _, rfl, rfl, _, rfl, if_f (by first | decide | simp [dW]) ⟨_, rfl, _, _, rfl, rfl, _, rfl, if_f (by first | decide | simp [dW]) ⟨_, rfl, _, _, rfl, rfl, _, rfl, if_f (by first | decide | simp [dW]) ⟨_, rfl, _, _, rfl, rfl, _, rfl, if_f (by first | decide | simp [dW]) ⟨_, rfl, _, _, rfl, rfl, _, rfl, if_t (by first | decide | simp [dW]) ?_⟩⟩⟩⟩⟩
      refine ⟨_, rfl, sl, rfl, ⟨_, .of esl2⟩, fun D hD => ?_⟩
      refine lc_acc walk_list (fun j acc H' => acc = (((m.hs.take j).filter fun s => !decide (s = (i' : Int))).map V.int) ∧ Kp N [] H2 H') (by rw [List.length_map]; omega) ⟨rfl, Kp.refl.new hD⟩ (fun j acc H' r => by rw [r.1, List.length_map]; exact Nat.le_trans (List.length_filter_le _ _) (by simp; omega)) (fun j acc H' _ _ r => .of (r.2 _ _ esl2 (.inl (by simp)))) ?_ ?_
      · rintro j x acc H4 H' hj e2 z ⟨rfl, k4⟩ ⟨rfl, hx⟩
        obtain ⟨s, hs1, rfl⟩ := int_at hx
        refine ⟨rfl, _, rfl, _, rfl, s, _, rfl, rfl, _, rfl, ?_⟩
        by_cases c : s = (i' : Int)
        · refine if_f (by simp [c]) ⟨_, e2, ?_, k4⟩
          rw [List.take_add_one, hs1, List.filter_append]
          simp [c]
        · refine if_t (by simp [c]) ⟨_, rfl, LcN.add e2 z ⟨?_, k4.put hD⟩⟩
          rw [List.take_add_one, hs1, List.filter_append]
          simp [c]
      · rintro acc H4 e4 ⟨rfl, k4⟩
        rw [List.length_map, List.take_of_length_le (Nat.le_refl _)] at e4
        refine ⟨mp, D, some (.ref d), some (.str (S (dW (.free i')))), some (.int i'), v8, ?_, ?_, ?_, (kk.fresh hD).resolve_right (by simp), kk.then k4⟩
        · rw [hM]; rfl
        · rw [hM]; exact k4 _ _ emp2 (.inl (by simp))
        · rw [hM]; exact e4
  · rintro σ H1 ⟨mp, sl, v3, v6, v7, v8, rfl, emp, esl, nsl, k1⟩
    have hM : M lv.length = replay (mom0 tab r t) ds := by
      show replay _ (ds.take lv.length) = _
      rw [hlen, List.take_length]
    rw [hM] at emp esl ⊢
    refine ⟨_, rfl, _, rfl, _, rfl, _, rfl, by show 4 ≤ sizeLine; decide, fun qq hqq => ?_⟩
    exact q qq sl _ ⟨mp, upd_same, (upd_ne (ne_of_none emp hqq)).trans emp, (upd_ne (ne_of_none esl hqq)).trans esl⟩ (k1.new hqq) nsl
theorem ok_l_moment (T : Txt K w mg N) : FnR Pw w K mg base CX0 6 N.l_moment (sp_l_moment K N) := by
  obtain ⟨fd, F, b⟩ := T.d_l_moment
  exact mk_fn F b sc_l_moment (fun vs H Q E h => by (repeat (first | (obtain ⟨rfl, _⟩ := h; rfl) | (obtain ⟨_, h⟩ := h)))) fun cdv A outer s H vs Q E hr h => ⟨t_l_moment K N, (PSs.nox (by exact (pss_cons (ps_par (i := 4) (j := 5) rfl sc_l_moment.nd rfl rfl (by decide) rfl rfl (pa_cons (pe_lst pa_nil) (pa_cons pe_int pa_nil)) rfl)
 (pss_cons (ps_for PassesOwn.never rfl (pi_list (pv 2)) (pg_name (i := 3) sc_l_moment.nd rfl (Or.inl rfl))
 (pss_cons (ps_asg (pe_slice sl_tupA (pv 3) po_none (po_some pe_int)) (pg_tup rfl (pgs_cons (pg_name (i := 6) sc_l_moment.nd rfl (Or.inl rfl)) (pgs_cons (pg_name (i := 7) sc_l_moment.nd rfl (Or.inr rfl)) pgs_nil))))
 (pss_cons (ps_if (pt_cmpR op_eqX (pv 6) (pe_lit (l := [98, 101, 97, 116, 115]) (by decide +kernel)) (nomark _)) (pss_cons (ps_for PassesOwn.never rfl (pi_range1 rfl T.n_range (pa_cons (pv 7) pa_nil)) (pg_name (i := 8) sc_l_moment.nd rfl (Or.inl rfl))
 (pss_one (ps_set (i := 1) sc_l_moment.nd rfl (Or.inr rfl) (pe_cl (ok_l_held_beat T) (hr.mono (by decide)) rfl T.g_l_held_beat T.k_l_held_beat pass0 (pa_cons (pv 0) (pa_cons (pv 1) (pa_cons (pv 4) pa_nil)))))))
 (pss_one (ps_aug (i := 5) sc_l_moment.nd rfl (Or.inl rfl) (pv 7) ip_add))) pss_nil)
 (pss_cons (ps_if (pt_cmpR op_eqX (pv 6) (pe_lit (l := [115, 101, 97, 116]) (by decide +kernel)) (nomark _)) (pss_one (ps_set (i := 1) sc_l_moment.nd rfl (Or.inr rfl) (pe_op op_catX (pe_op op_catX (pe_slice sl_x (pv 1) po_none (po_some (pv 7))) (pe_ix ix_tup (pv 3) pe_int (fun _ _ => rfl))) (pe_slice sl_x (pv 1) (po_some (pe_op op_add (pv 7) pe_int)) po_none)))) pss_nil)
 (pss_cons (ps_if (pt_cmpR op_eqX (pv 6) (pe_lit (l := [116, 117, 114, 110]) (by decide +kernel)) (nomark _)) (pss_one (ps_asg (pe_tup (pa_cons (pe_cl (ok_l_turned T) (hr.mono (by decide)) rfl T.g_l_turned T.k_l_turned pass0 (pa_cons (pv 1) (pa_cons (pv 7) pa_nil))) (pa_cons (pe_callB cr_sortedI rfl T.n_sorted bt_sorted (pa_cons (pe_lc (own := [(("_law_seat" : Str), 9)]) (g := (gName 9)) (tt := tYes) rfl sc_l_moment.nd (pi_list (pv 4)) (blkOk_by (N := nm_l_moment) (sc := defScope s_l_moment) (by decide +kernel)) (fun _ _ _ _ _ => (pg_name (i := 9) sc_l_moment.nd rfl (Or.inl rfl))) (fun _ _ _ _ _ => pts_nil) (fun _ _ _ _ _ => (pe_op op_mod (pe_callTy call_intI rfl T.n_int bt_int (pa_cons (pe_op op_add (pv 9) (pv 7)) pa_nil)) (pe_callB call_lenX rfl T.n_len bt_len (pa_cons (pv 1) pa_nil))))) pa_nil)) pa_nil))) (pg_tup rfl (pgs_cons (pg_name (i := 1) sc_l_moment.nd rfl (Or.inr rfl)) (pgs_cons (pg_name (i := 4) sc_l_moment.nd rfl (Or.inl rfl)) pgs_nil))))) pss_nil)
 (pss_cons (ps_if (pt_cmpR op_eqX (pv 6) (pe_lit (l := [116, 97, 98, 108, 101]) (by decide +kernel)) (nomark _)) (pss_one (ps_set (i := 0) sc_l_moment.nd rfl (Or.inl rfl) (pe_tup (pa_cons (pv 7) (pa_cons (pe_ix ix_tup (pv 0) pe_int (fun _ _ => rfl)) pa_nil))))) pss_nil)
 (pss_cons (ps_if (pt_cmpR op_eqX (pv 6) (pe_lit (l := [104, 111, 108, 100]) (by decide +kernel)) (nomark _)) (pss_one (ps_set (i := 4) sc_l_moment.nd rfl (Or.inl rfl) (pe_callB cr_sortedI rfl T.n_sorted bt_sorted (pa_cons (pe_op op_cat (pv 4) (pe_lst (pa_cons (pv 7) pa_nil))) pa_nil)))) pss_nil)
 (pss_one (ps_if (pt_cmpR op_eqX (pv 6) (pe_lit (l := [102, 114, 101, 101]) (by decide +kernel)) (nomark _)) (pss_one (ps_setLc (own := [(("_law_seat" : Str), 9)]) (g := (gName 9)) (tt := (tTest (tOp rNeI (tVar 9) (tVar 7)))) (i := 4) rfl sc_l_moment.nd rfl rfl (sw_true rfl rfl rfl (by decide +kernel)) (pi_list (pv 4)) (blkOk_by (N := nm_l_moment) (sc := defScope s_l_moment) (by decide +kernel)) (fun _ _ _ _ _ => (pg_name (i := 9) sc_l_moment.nd rfl (Or.inl rfl))) (fun _ _ _ _ _ => (pts_one (pt_cmpR op_neI (pv 9) (pv 7) (nomark _)))) (fun _ _ _ _ _ => (pv 9)))) pss_nil)))))))))
 (pss_one (ps_ret (pe_tup (pa_cons (pv 0) (pa_cons (pv 1) (pa_cons (pv 4) (pa_cons (pv 5) pa_nil))))))))))), pure_l_moment T vs H Q E h⟩
end
end Sw
namespace Sw
open PySem PySem.Spec PyProof.Rows L2
open SX (S S_cat S_len S_inj)
open SlX (SlO SlR putS slH)
section
variable {K : PySem.W.Frag} {w : World} {mg : Str → Option Value} {N : Nm} {base : Heap}
def sp_l_deed (K : PySem.W.Frag) (N : Nm) : Sp := fun vs H Q E => ∃ (b cl q sl : Addr) (M : Mom) (n r k : Nat), vs = [.ref b, .ref q] ∧ BagAt H b cl ∧ MomV H q sl M ∧ MomOk n r k M ∧ k ≤ 500 ∧
  ∀ D d H', Wf n r D → H' d = some (.tup (dV D)) → BagAt H' b cl → Kp N [b] H H' → Q (.ref d) H'
def t_l_deed (K : PySem.W.Frag) (N : Nm) : TS :=
 (tSeq (tAsg (tVar 1) (gTup K 4 (gCons (gName 2) (gCons (gName 3) (gCons (gName 4) (gCons (gName 5) gNil))))))
 (tSeq (tPar 6 7 (tCons (tCl (sp_l_take K N) E0 (tCons (tVar 0) (tCons (tC (.int 9)) tNil))) (tCons (tCl (sp_l_take K N) E0 (tCons (tVar 0) (tCons (tCB rLenX (tCons (tVar 3) tNil)) tNil))) tNil)))
 (tSeq (tIfS (tTest (tOp rLtI (tVar 6) (tC (.int 3))))
 (tRet (tTup (tCons (tC (.str (S [98, 101, 97, 116, 115]))) (tCons (tCl (sp_l_pick K N) E0 (tCons (tVar 0) (tCons (tLst (tCons (tC (.int 1)) (tCons (tC (.int 1)) (tCons (tC (.int 2)) (tCons (tC (.int 3)) (tCons (tC (.int 1)) (tCons (tC (.int 2)) (tCons (tC (.int 5)) (tCons (tC (.int 50)) tNil))))))))) tNil))) tNil)))) tNext)
 (tSeq (tIfS (tTest (tOp rLtI (tVar 6) (tC (.int 5))))
 (tRet (tTup (tCons (tC (.str (S [115, 101, 97, 116]))) (tCons (tVar 7) (tCons (tCl (sp_l_pick K N) E0 (tCons (tVar 0) (tCons (tCl (sp_l_signs K N) E0 (tCons (tOp (rIxT K) (tVar 2) (tC (.int 1))) tNil)) tNil))) tNil))))) tNext)
 (tSeq (tIfS (tTest (tOp rEqI (tVar 6) (tC (.int 5))))
 (tRet (tTup (tCons (tC (.str (S [116, 117, 114, 110]))) (tCons (tCl (sp_l_pick K N) E0 (tCons (tVar 0) (tCons (tLst (tCons (tC (.int 0)) (tCons (tC (.int 1)) (tCons (tUn (rU fun i => .int (-i)) (tC (.int 1))) (tCons (tC (.int 5)) (tCons (tOp rPowI (tC (.int 10)) (tC (.int 39))) (tCons (tOp rSubI (tCl (sp_l_take K N) E0 (tCons (tVar 0) (tCons (tC (.int 20)) tNil))) (tC (.int 10))) tNil))))))) tNil))) tNil)))) tNext)
 (tSeq (tIfS (tTest (tOp rEqI (tVar 6) (tC (.int 6))))
 (tRet (tTup (tCons (tC (.str (S [116, 97, 98, 108, 101]))) (tCons (tCl (sp_l_table K N) E0 (tCons (tVar 0) tNil)) tNil)))) tNext)
 (tRet (tTup (tCons (tOp (rIxL K) (tLst (tCons (tC (.str (S [104, 111, 108, 100]))) (tCons (tC (.str (S [102, 114, 101, 101]))) tNil))) (tOp rSubI (tVar 6) (tC (.int 7)))) (tCons (tIf (tTest (tOp rEqI (tVar 6) (tC (.int 8)))) (tCl (sp_l_pick K N) E0 (tCons (tVar 0) (tCons (tOp rCat (tVar 4) (tLst (tCons (tVar 7) tNil))) tNil))) (tVar 7)) tNil))))))))))
theorem pure_l_deed (T : Txt K w mg N) (vs : List V) (H : Hp) (Q : VK) (E : XK) (h : sp_l_deed K N vs H Q E) : t_l_deed K N (Eo Q) (start nm_l_deed vs) H := by
  obtain ⟨b, cl, q, sl, M, n, r, k, rfl, bag, ⟨mp, eq, emp, esl⟩, ok, hk, fin⟩ := h
  have slb := bag.ne_ints esl
  have hln := ok.len
  have n0 := ok.n0
  have n1 := ok.n1
  have r2 := ok.r2
  have hr : M.r = r := ok.rr
  have hhl := ok.hl
  refine ⟨_, rfl, q, _, rfl, .of eq, rfl, _, _, rfl, _, _, rfl, _, _, rfl, _, _, rfl, rfl, ?_⟩
  refine ⟨_, rfl, b, cl, 9, rfl, bag, by decide, by decide, fun way H1 hw bag1 k1 => ?_⟩
  refine ⟨_, rfl, _, rfl, M.t, rfl, by omega, b, cl, _, rfl, bag1, by omega, by omega, fun seat H2 hs bag2 k2 => ⟨_, _, rfl, ?_⟩⟩
  have kk := k1.then k2
  have emp2 := kk _ _ emp (.inr Prm.tup)
  have esl2 := kk _ _ esl (.inl (by simp [slb]))
  have hseat : seat < n := by omega
  refine ⟨_, rfl, _, _, rfl, rfl, _, rfl, ?_⟩
  by_cases c1 : (way : Int) < 3
  · refine if_t (decide_eq_true c1) ⟨_, rfl, by show 8 ≤ sizeLine; decide, fun L hL => ?_⟩
    have bag3 := bag_new (o := .lst [.int 1, .int 1, .int 2, .int 3, .int 1, .int 2, .int 5, .int 50]) bag2 hL
    refine ⟨b, cl, .ref L, rfl, bag3, .inl ⟨L, _, rfl, bag_fresh bag2 hL, upd_same, by simp, by simp, fun y H3 hy bag4 k3 => ⟨by show 2 ≤ sizeLine; decide, fun p hp => ?_⟩⟩⟩
    obtain ⟨k', hk', rfl⟩ : ∃ k' : Nat, (1 ≤ k' ∧ k' ≤ 50) ∧ y = V.int k' := by
      simp only [List.mem_cons, List.not_mem_nil, or_false] at hy
      rcases hy with rfl | rfl | rfl | rfl | rfl | rfl | rfl | rfl
      · exact ⟨1, by decide, rfl⟩
      · exact ⟨1, by decide, rfl⟩
      · exact ⟨2, by decide, rfl⟩
      · exact ⟨3, by decide, rfl⟩
      · exact ⟨1, by decide, rfl⟩
      · exact ⟨2, by decide, rfl⟩
      · exact ⟨5, by decide, rfl⟩
      · exact ⟨50, by decide, rfl⟩
    exact fin (.beats k') p _ hk' upd_same (bag_new bag4 hp) (((kk.new hL).then k3).new hp)
  refine if_f (decide_eq_false c1) ⟨_, rfl, _, _, rfl, rfl, _, rfl, ?_⟩
  by_cases c2 : (way : Int) < 5
  · refine if_t (decide_eq_true c2) ⟨_, rfl, _, rfl, _, rfl, mp, _, _, _, rfl, rfl, .of emp2, rfl, M.r, rfl, ?_⟩
    have sl2 : 2 ≤ (sgn M.r).length := by
      unfold sgn
      rw [List.length_take]
      exact Nat.le_min.mpr ⟨by omega, by decide⟩
    have sl4 := sgn_len M.r
    refine ⟨b, cl, .str (S (sgn M.r)), rfl, bag2, .inr ⟨sgn M.r, rfl, fun z => by rw [z] at sl2; simp at sl2, by omega, fun c H3 hc bag3 k3 => ⟨by show 3 ≤ sizeLine; decide, fun p hp => ?_⟩⟩⟩
    refine fin (.seat seat c) p _ ⟨hseat, ?_⟩ upd_same (bag_new bag3 hp) ((kk.then k3).new hp)
    have := (mem_sgn (by omega)).mp hc
    rw [hr] at this
    exact this
  refine if_f (decide_eq_false c2) ⟨_, rfl, _, _, rfl, rfl, _, rfl, ?_⟩
  by_cases c3 : (way : Int) = 5
  · refine if_t (decide_eq_true c3) ⟨_, rfl, ?_⟩
    refine ⟨_, rfl, _, _, rfl, rfl, ⟨by decide, by decide, by decide⟩, ?_⟩
    refine ⟨_, rfl, b, cl, 20, rfl, bag2, by decide, by decide, fun j H3 hj bag3 k3 => ⟨_, _, rfl, rfl, by show 6 ≤ sizeLine; decide, fun L hL => ?_⟩⟩
    have bag4 := bag_new (o := .lst [.int 0, .int 1, .int (-1), .int 5, .int ((10 : Int) ^ (39 : Int).toNat), .int ((j : Int) - 10)]) bag3 hL
    refine ⟨b, cl, .ref L, rfl, bag4, .inl ⟨L, _, rfl, bag_fresh bag3 hL, upd_same, by simp, by simp, fun y H4 hy bag5 k4 => ⟨by show 2 ≤ sizeLine; decide, fun p hp => ?_⟩⟩⟩
    obtain ⟨p', hp', rfl⟩ : ∃ p' : Int, p'.natAbs ≤ 10 ^ 39 ∧ y = V.int p' := by
      simp only [List.mem_cons, List.not_mem_nil, or_false] at hy
      rcases hy with rfl | rfl | rfl | rfl | rfl | rfl
      · exact ⟨0, by decide, rfl⟩
      · exact ⟨1, by decide, rfl⟩
      · exact ⟨-1, by decide, rfl⟩
      · exact ⟨5, by decide, rfl⟩
      · exact ⟨10 ^ 39, by decide, rfl⟩
      · exact ⟨(j : Int) - 10, by have : (10 : Nat) ^ 39 ≥ 1000 := by decide
                                  omega, rfl⟩
    exact fin (.turn p') p _ hp' upd_same (bag_new bag5 hp) ((((kk.then k3).new hL).then k4).new hp)
  refine if_f (decide_eq_false c3) ⟨_, rfl, _, _, rfl, rfl, _, rfl, ?_⟩
  by_cases c4 : (way : Int) = 6
  · refine if_t (decide_eq_true c4) ⟨_, rfl, b, cl, rfl, bag2, fun tab H3 ht bag3 k3 => ⟨by show 2 ≤ sizeLine; decide, fun p hp => ?_⟩⟩
    exact fin (.table tab) p _ ht upd_same (bag_new bag3 hp) ((kk.then k3).new hp)
  refine if_f (decide_eq_false c4) ?_
  refine ⟨by show 2 ≤ sizeLine; decide, fun L hL => ?_⟩
  have bag3 := bag_new (o := .lst [.str (S W4), .str (S W5)]) bag2 hL
  have esl3 : (upd H2 L (.lst [.str (S W4), .str (S W5)])) sl = some (.lst (M.hs.map V.int)) := (upd_ne (ne_of_none esl2 hL)).trans esl2
  have eL : (upd H2 L (.lst [.str (S W4), .str (S W5)])) L = some (.lst [.str (S W4), .str (S W5)]) := upd_same
  have k3 : Kp N [b] H (upd H2 L (.lst [.str (S W4), .str (S W5)])) := kk.new hL
  refine ⟨_, rfl, _, _, rfl, rfl, ?_⟩
  by_cases c5 : (way : Int) = 8
  · have e : (way : Int) - 7 = 1 := by omega
    refine ⟨L, _, _, .str (S W5), rfl, rfl, .of eL, by rw [e]; rfl, _, rfl, _, _, rfl, rfl, _, rfl, if_t (decide_eq_true c5) ?_⟩
    refine ⟨_, rfl, _, rfl, _, rfl, by show 1 ≤ sizeLine; decide, fun L1 hL1 => ?_⟩
    have k4 := k3.new (o := .lst [.int (seat : Int)]) hL1
    have bag4 := bag_new (o := .lst [.int (seat : Int)]) bag3 hL1
    refine ⟨sl, L1, _, _, rfl, rfl, (upd_ne (ne_of_none esl3 hL1)).trans esl3, upd_same, size_le (by simp; omega), fun L2' hL2 => ?_⟩
    have k5 := k4.new (o := .lst (M.hs.map V.int ++ [.int (seat : Int)])) hL2
    have bag5 := bag_new (o := .lst (M.hs.map V.int ++ [.int (seat : Int)])) bag4 hL2
    refine ⟨b, cl, .ref L2', rfl, bag5, .inl ⟨L2', _, rfl, bag_fresh bag4 hL2, upd_same, by simp, by simp; omega, fun y H4 hy bag6 k6 => ⟨by show 2 ≤ sizeLine; decide, fun p hp => ?_⟩⟩⟩
    obtain ⟨i, hi, rfl⟩ : ∃ i : Nat, i < n ∧ y = V.int i := by
      rcases List.mem_append.mp hy with z | z
      · obtain ⟨s, hs', rfl⟩ := List.mem_map.mp z
        have := ok.hs s hs'
        exact ⟨s.toNat, by omega, by rw [Int.toNat_of_nonneg this.1]⟩
      · exact ⟨seat, hseat, List.mem_singleton.mp z⟩
    exact fin (.free i) p _ hi upd_same (bag_new bag6 hp) ((k5.then k6).new hp)
  · have e : (way : Int) - 7 = 0 := by omega
    refine ⟨L, _, _, .str (S W4), rfl, rfl, .of eL, by rw [e]; rfl, _, rfl, _, _, rfl, rfl, _, rfl, if_f (decide_eq_false c5) ?_⟩
    refine ⟨_, rfl, by show 2 ≤ sizeLine; decide, fun p hp => ?_⟩
    exact fin (.hold seat) p _ hseat upd_same (bag_new bag3 hp) (k3.new hp)
theorem ok_l_deed (T : Txt K w mg N) : FnR Pw w K mg base CX0 6 N.l_deed (sp_l_deed K N) := by
  obtain ⟨fd, F, b⟩ := T.d_l_deed
  exact mk_fn F b sc_l_deed (fun vs H Q E h => by (repeat (first | (obtain ⟨rfl, _⟩ := h; rfl) | (obtain ⟨_, h⟩ := h)))) fun cdv A outer s H vs Q E hr h => ⟨t_l_deed K N, (PSs.nox (by exact (pss_cons (ps_asg (pv 1) (pg_tup rfl (pgs_cons (pg_name (i := 2) sc_l_deed.nd rfl (Or.inl rfl)) (pgs_cons (pg_name (i := 3) sc_l_deed.nd rfl (Or.inl rfl)) (pgs_cons (pg_name (i := 4) sc_l_deed.nd rfl (Or.inl rfl)) (pgs_cons (pg_name (i := 5) sc_l_deed.nd rfl (Or.inl rfl)) pgs_nil))))))
 (pss_cons (ps_par (i := 6) (j := 7) rfl sc_l_deed.nd rfl rfl (by decide) rfl rfl (pa_cons (pe_cl (ok_l_take T) (hr.mono (by decide)) rfl T.g_l_take T.k_l_take pass0 (pa_cons (pv 0) (pa_cons pe_int pa_nil))) (pa_cons (pe_cl (ok_l_take T) (hr.mono (by decide)) rfl T.g_l_take T.k_l_take pass0 (pa_cons (pv 0) (pa_cons (pe_callB call_lenX rfl T.n_len bt_len (pa_cons (pv 3) pa_nil)) pa_nil))) pa_nil)) rfl)
 (pss_cons (ps_if (pt_cmpR op_lt (pv 6) pe_int (nomark _)) (pss_one (ps_ret (pe_tup (pa_cons (pe_lit (l := [98, 101, 97, 116, 115]) (by decide +kernel)) (pa_cons (pe_cl (ok_l_pick T) (hr.mono (by decide)) rfl T.g_l_pick T.k_l_pick pass0 (pa_cons (pv 0) (pa_cons (pe_lst (pa_cons pe_int (pa_cons pe_int (pa_cons pe_int (pa_cons pe_int (pa_cons pe_int (pa_cons pe_int (pa_cons pe_int (pa_cons pe_int pa_nil))))))))) pa_nil))) pa_nil))))) pss_nil)
 (pss_cons (ps_if (pt_cmpR op_lt (pv 6) pe_int (nomark _)) (pss_one (ps_ret (pe_tup (pa_cons (pe_lit (l := [115, 101, 97, 116]) (by decide +kernel)) (pa_cons (pv 7) (pa_cons (pe_cl (ok_l_pick T) (hr.mono (by decide)) rfl T.g_l_pick T.k_l_pick pass0 (pa_cons (pv 0) (pa_cons (pe_cl (ok_l_signs T) (hr.mono (by decide)) rfl T.g_l_signs T.k_l_signs pass0 (pa_cons (pe_ix ix_tup (pv 2) pe_int (fun _ _ => rfl)) pa_nil)) pa_nil))) pa_nil)))))) pss_nil)
 (pss_cons (ps_if (pt_cmpR op_eqI (pv 6) pe_int (nomark _)) (pss_one (ps_ret (pe_tup (pa_cons (pe_lit (l := [116, 117, 114, 110]) (by decide +kernel)) (pa_cons (pe_cl (ok_l_pick T) (hr.mono (by decide)) rfl T.g_l_pick T.k_l_pick pass0 (pa_cons (pv 0) (pa_cons (pe_lst (pa_cons pe_int (pa_cons pe_int (pa_cons (pe_un un_neg pe_int) (pa_cons pe_int (pa_cons (pe_op op_pow pe_int pe_int) (pa_cons (pe_op op_sub (pe_cl (ok_l_take T) (hr.mono (by decide)) rfl T.g_l_take T.k_l_take pass0 (pa_cons (pv 0) (pa_cons pe_int pa_nil))) pe_int) pa_nil))))))) pa_nil))) pa_nil))))) pss_nil)
 (pss_cons (ps_if (pt_cmpR op_eqI (pv 6) pe_int (nomark _)) (pss_one (ps_ret (pe_tup (pa_cons (pe_lit (l := [116, 97, 98, 108, 101]) (by decide +kernel)) (pa_cons (pe_cl (ok_l_table T) (hr.mono (by decide)) rfl T.g_l_table T.k_l_table pass0 (pa_cons (pv 0) pa_nil)) pa_nil))))) pss_nil)
 (pss_one (ps_ret (pe_tup (pa_cons (pe_ix ix_list (pe_lst (pa_cons (pe_lit (l := [104, 111, 108, 100]) (by decide +kernel)) (pa_cons (pe_lit (l := [102, 114, 101, 101]) (by decide +kernel)) pa_nil))) (pe_op op_sub (pv 6) pe_int) (fun _ _ => rfl)) (pa_cons (pe_ifExp (pt_cmpR op_eqI (pv 6) pe_int (nomark _)) (pe_cl (ok_l_pick T) (hr.mono (by decide)) rfl T.g_l_pick T.k_l_pick pass0 (pa_cons (pv 0) (pa_cons (pe_op op_cat (pv 4) (pe_lst (pa_cons (pv 7) pa_nil))) pa_nil))) (pv 7)) pa_nil))))))))))))), pure_l_deed T vs H Q E h⟩
def sp_l_can_do (K : PySem.W.Frag) (N : Nm) : Sp := fun vs H Q _ => ∃ (q sl d : Addr) (M : Mom) (D : Deed) (n r k : Nat), vs = [.ref q, .ref d] ∧ MomV H q sl M ∧ H d = some (.tup (dV D)) ∧ MomOk n r k M ∧ Wf n r D ∧ Q (.bl (canDo M D)) H
def t_l_can_do (K : PySem.W.Frag) (N : Nm) : TS :=
 (tSeq (tPar 2 3 (tCons (tOp (rIxT K) (tVar 0) (tC (.int 1))) (tCons (tOp (rIxT K) (tVar 0) (tC (.int 2))) tNil)))
 (tSeq (tIfS (tTest (tOp rEqX (tOp (rIxT K) (tVar 1) (tC (.int 0))) (tC (.str (S [115, 101, 97, 116])))))
 (tRet (tAndV (tOp (rIn K true) (tOp (rIxT K) (tVar 1) (tC (.int 1))) (tVar 3)) (tOp rNeX (tOp rIxX (tVar 2) (tOp (rIxT K) (tVar 1) (tC (.int 1)))) (tOp (rIxT K) (tVar 1) (tC (.int 2)))))) tNext)
 (tSeq (tIfS (tTest (tOp rEqX (tOp (rIxT K) (tVar 1) (tC (.int 0))) (tC (.str (S [104, 111, 108, 100])))))
 (tRet (tAndV (tOp (rIn K true) (tOp (rIxT K) (tVar 1) (tC (.int 1))) (tVar 3)) (tOp rEqX (tOp rIxX (tVar 2) (tOp (rIxT K) (tVar 1) (tC (.int 1)))) (tC (.str (S [48])))))) tNext)
 (tRet (tOrV (tOp rNeX (tOp (rIxT K) (tVar 1) (tC (.int 0))) (tC (.str (S [102, 114, 101, 101])))) (tOp (rIn K false) (tOp (rIxT K) (tVar 1) (tC (.int 1))) (tVar 3)))))))
theorem pure_l_can_do (T : Txt K w mg N) (vs : List V) (H : Hp) (Q : VK) (E : XK) (h : sp_l_can_do K N vs H Q E) : t_l_can_do K N (Eo Q) (start nm_l_can_do vs) H := by
  obtain ⟨qq, hl, d, M, D, n, r, k, rfl, ⟨mp, eq, emp, eh⟩, ed, ok, wf, q⟩ := h
  refine ⟨_, rfl, qq, _, _, _, rfl, rfl, .of eq, rfl, _, rfl, qq, _, _, _, rfl, rfl, .of eq, rfl, _, _, rfl, ?_⟩
  refine ⟨_, rfl, d, _, _, _, rfl, rfl, .of ed, dV_0 D, _, _, rfl, rfl, _, rfl, ?_⟩
  have hl' := ok.len
  have n1 := ok.n1
  cases D with
  | seat i c =>
    have hi : i < n := wf.1
    refine if_t (by first | decide | simp [dW]) ⟨_, rfl, d, _, _, _, rfl, rfl, .of ed, rfl, _, rfl, hl, _, rfl, .inl (.of eh), rfl, flat_ints _, ?_⟩
    show ∃ c', V.bl (!inV (V.int (i : Nat)) (M.hs.map V.int)) = V.bl c' ∧ _
    rw [inV_ints]
    refine ⟨_, rfl, ?_⟩
    by_cases c1 : ((i : Nat) : Int) ∈ M.hs
    · refine if_f (by simp [c1]) ?_
      have : canDo M (.seat i c) = false := by simp [canDo, c1]
      rw [this] at q; exact q
    · refine if_t (by simp [c1]) ⟨_, rfl, _, rfl, d, _, _, _, rfl, rfl, .of ed, rfl, M.t, _, _, rfl, rfl, by omega, atI_getD (by omega) (by omega), ?_⟩
      refine ⟨_, rfl, d, _, _, _, rfl, rfl, .of ed, rfl, _, _, rfl, rfl, ?_⟩
      have : canDo M (.seat i c) = !decide ([M.t.getD ((i : Nat) : Int).toNat 0] = [c]) := by simp [canDo, c1]
      rw [← this]
      exact q
  | hold i =>
    have hi : i < n := wf
    refine if_f (by first | decide | simp [dW]) ⟨_, rfl, d, _, _, _, rfl, rfl, .of ed, rfl, _, _, rfl, rfl, _, rfl, ?_⟩
    refine if_t (by first | decide | simp [dW]) ⟨_, rfl, d, _, _, _, rfl, rfl, .of ed, rfl, _, rfl, hl, _, rfl, .inl (.of eh), rfl, flat_ints _, ?_⟩
    show ∃ c', V.bl (!inV (V.int (i : Nat)) (M.hs.map V.int)) = V.bl c' ∧ _
    rw [inV_ints]
    refine ⟨_, rfl, ?_⟩
    by_cases c1 : ((i : Nat) : Int) ∈ M.hs
    · refine if_f (by simp [c1]) ?_
      have : canDo M (.hold i) = false := by simp [canDo, c1]
      rw [this] at q; exact q
    · refine if_t (by simp [c1]) ⟨_, rfl, _, rfl, d, _, _, _, rfl, rfl, .of ed, rfl, M.t, _, _, rfl, rfl, by omega, atI_getD (by omega) (by omega), _, _, rfl, rfl, ?_⟩
      have : canDo M (.hold i) = decide ([M.t.getD ((i : Nat) : Int).toNat 0] = [48]) := by simp [canDo, c1]
      rw [← this]
      exact q
  | free i =>
    refine if_f (by first | decide | simp [dW]) ⟨_, rfl, d, _, _, _, rfl, rfl, .of ed, rfl, _, _, rfl, rfl, _, rfl, ?_⟩
    refine if_f (by first | decide | simp [dW]) ⟨_, rfl, d, _, _, _, rfl, rfl, .of ed, rfl, _, _, rfl, rfl, _, rfl, ?_⟩
    refine if_f (by first | decide | simp [dW]) ⟨_, rfl, d, _, _, _, rfl, rfl, .of ed, rfl, _, rfl, hl, _, rfl, .inl (.of eh), rfl, flat_ints _, ?_⟩
    show Q (V.bl (inV (V.int (i : Nat)) (M.hs.map V.int))) H
    rw [inV_ints]
    exact q
  | beats j =>
    refine if_f (by first | decide | simp [dW]) ⟨_, rfl, d, _, _, _, rfl, rfl, .of ed, rfl, _, _, rfl, rfl, _, rfl, ?_⟩
    refine if_f (by first | decide | simp [dW]) ⟨_, rfl, d, _, _, _, rfl, rfl, .of ed, rfl, _, _, rfl, rfl, _, rfl, ?_⟩
    exact if_t (by first | decide | simp [dW]) q
  | turn p =>
    refine if_f (by first | decide | simp [dW]) ⟨_, rfl, d, _, _, _, rfl, rfl, .of ed, rfl, _, _, rfl, rfl, _, rfl, ?_⟩
    refine if_f (by first | decide | simp [dW]) ⟨_, rfl, d, _, _, _, rfl, rfl, .of ed, rfl, _, _, rfl, rfl, _, rfl, ?_⟩
    exact if_t (by first | decide | simp [dW]) q
  | table tb =>
    refine if_f (by first | decide | simp [dW]) ⟨_, rfl, d, _, _, _, rfl, rfl, .of ed, rfl, _, _, rfl, rfl, _, rfl, ?_⟩
    refine if_f (by first | decide | simp [dW]) ⟨_, rfl, d, _, _, _, rfl, rfl, .of ed, rfl, _, _, rfl, rfl, _, rfl, ?_⟩
    exact if_t (by first | decide | simp [dW]) q
theorem ok_l_can_do (T : Txt K w mg N) : FnR Pw w K mg base CX0 4 N.l_can_do (sp_l_can_do K N) := by
  obtain ⟨fd, F, b⟩ := T.d_l_can_do
  exact mk_fn F b sc_l_can_do (fun vs H Q E h => by (repeat (first | (obtain ⟨rfl, _⟩ := h; rfl) | (obtain ⟨_, h⟩ := h)))) fun cdv A outer s H vs Q E hr h => ⟨t_l_can_do K N, (PSs.nox (by exact (pss_cons (ps_par (i := 2) (j := 3) rfl sc_l_can_do.nd rfl rfl (by decide) rfl rfl (pa_cons (pe_ix ix_tup (pv 0) pe_int (fun _ _ => rfl)) (pa_cons (pe_ix ix_tup (pv 0) pe_int (fun _ _ => rfl)) pa_nil)) rfl)
 (pss_cons (ps_if (pt_cmpR op_eqX (pe_ix ix_tup (pv 1) pe_int (fun _ _ => rfl)) (pe_lit (l := [115, 101, 97, 116]) (by decide +kernel)) (nomark _)) (pss_one (ps_ret (pe_and (pe_cmpR op_notIn_seq (pe_ix ix_tup (pv 1) pe_int (fun _ _ => rfl)) (pv 3) (by with_unfolding_all rfl)) (pe_one (pe_cmpR op_neX (pe_ix ix_x (pv 2) (pe_ix ix_tup (pv 1) pe_int (fun _ _ => rfl)) (fun _ _ => rfl)) (pe_ix ix_tup (pv 1) pe_int (fun _ _ => rfl)) (nomark _)))))) pss_nil)
 (pss_cons (ps_if (pt_cmpR op_eqX (pe_ix ix_tup (pv 1) pe_int (fun _ _ => rfl)) (pe_lit (l := [104, 111, 108, 100]) (by decide +kernel)) (nomark _)) (pss_one (ps_ret (pe_and (pe_cmpR op_notIn_seq (pe_ix ix_tup (pv 1) pe_int (fun _ _ => rfl)) (pv 3) (by with_unfolding_all rfl)) (pe_one (pe_cmpR op_eqX (pe_ix ix_x (pv 2) (pe_ix ix_tup (pv 1) pe_int (fun _ _ => rfl)) (fun _ _ => rfl)) (pe_lit (l := [48]) (by decide +kernel)) (nomark _)))))) pss_nil)
 (pss_one (ps_ret (pe_or (pe_cmpR op_neX (pe_ix ix_tup (pv 1) pe_int (fun _ _ => rfl)) (pe_lit (l := [102, 114, 101, 101]) (by decide +kernel)) (nomark _)) (pe_one (pe_cmpR op_in_seq (pe_ix ix_tup (pv 1) pe_int (fun _ _ => rfl)) (pv 3) (by with_unfolding_all rfl))))))))))), pure_l_can_do T vs H Q E h⟩
/-! ## did -/
abbrev told : List Nat := [116, 111, 108, 100]
abbrev refused : List Nat := [114, 101, 102, 117, 115, 101, 100]
abbrev nothing : List Nat := [110, 111, 116, 104, 105, 110, 103]
def sp_l_did (K : PySem.W.Frag) (N : Nm) : Sp := fun vs H Q E => ∃ (g d : Addr) (own : List Addr) (G : GS) (D : Deed) (n r : Nat), vs = [.ref g, .ref d] ∧ GameAt N H g own G ∧ H d = some (.tup (dV D)) ∧ GsOk n r G ∧ G.log.length < 190 ∧ Wf n r D ∧
  (canDo G.mom D = true → ∀ H' own' p, GameAt N H' g own' { G with log := G.log ++ [D], gone := [] } → Kp N own H H' → Grow H own own' → H' p = some (.tup [.str (S told), .non]) → Q (.ref p) H') ∧
  (canDo G.mom D = false → ∀ H' p, Kp N [] H H' → H' p = some (.tup [.str (S refused), .ref d]) → Q (.ref p) H')
def tb_l_did (K : PySem.W.Frag) (N : Nm) (W : WX) : TS :=
 (tRet (tTup (tCons (tC (.str (S [116, 111, 108, 100]))) (tCons (tAt fun σ0 => SlX.tMethSl N.Game (sp_Game_do K N) (WE W σ0) (tVar 0) (tCons (tVar 1) tNil)) tNil))))
def ts_l_did (K : PySem.W.Frag) (N : Nm) (a : Addr) (cls : Value) (d : Option Addr) : TS := fun D σ H => cls = .ref N.Refused ∧
 (tSeq (tAsg (tLst (tCons (tCB (rIsD K N.Refused a d) (tCons (tVar 2) (tCons (tC (.ref N.NoDeed)) tNil))) (tCons (tCB (rIsD K N.Refused a d) (tCons (tVar 2) (tCons (tC (.ref N.Refused)) tNil))) (tCons (tCB (rIsD K N.Refused a d) (tCons (tVar 2) (tCons (tC (.ref N.Full)) tNil))) tNil)))) (gName 3))
 (tSeq (tIfS (tTest (tOp rNeI (tBM K "list" (rCntB K) (tVar 3) (tCons (tC (.bl true)) tNil)) (tC (.int 1))))
 tNever tNext)
 (tRet (tIf (tB (tOp (rIxL K) (tVar 3) (tC (.int 2)))) (tTup (tCons (tC (.str (S [102, 117, 108, 108]))) (tCons tNeverE tNil))) (tTup (tCons (tOp (rIxL K) (tLst (tCons (tC (.str (S [110, 111, 110, 101]))) (tCons (tC (.str (S [114, 101, 102, 117, 115, 101, 100]))) tNil))) (tBM K "list" (rIndex K) (tVar 3) (tCons (tC (.bl true)) tNil))) (tCons (tXf a cls d N.Refused "deed" (tVar 2)) tNil))))))) D σ H
def t_l_did (K : PySem.W.Frag) (N : Nm) : TS :=
 (fun D σ H => tb_l_did K N (wAs K (.ref N.WaveError) 2 (ts_l_did K N) (fun _ _ _ _ => False) D) D σ H)
theorem pure_l_did (T : Txt K w mg N) (vs : List V) (H : Hp) (Q : VK) (E : XK) (h : sp_l_did K N vs H Q E) : t_l_did K N (Eo Q) (start nm_l_did vs) H := by
  obtain ⟨g, d, own, G, D, n, r, rfl, ga, ed, ok, hlen, wf, qt, qf⟩ := h
  obtain ⟨dg, a0, L, U, m, ownM, rfl, sa, _⟩ := id ga
  show tb_l_did K N _ _ _ _
  refine ⟨_, rfl, g, dg, _, rfl, sa.slt, _, rfl, g, d, _, G, D, n, r, rfl, ga, ed, ok, hlen, wf, fun hc H1 own1 ga1 k1 gr => ?_, fun hc H1 dx k1 ex => ?_⟩
  · refine ⟨by show 2 ≤ sizeLine; decide, fun p hp => ?_⟩
    have kp : Kp N [] H1 (upd H1 p (.tup [.str (S told), .non])) := Kp.refl.new hp
    exact qt hc _ own1 p (ga1.keep kp (by simp)) (k1.new hp) gr upd_same
  · refine ⟨true, T.exm_Refused, fun _ a ha => ⟨rfl, ?_⟩, fun z => nomatch z⟩
    have exd : ∀ dd, some dx = some dd → ∃ fs, H1 dd = some (.xd fs) := fun dd z => by cases z; exact ⟨_, ex⟩
    refine ⟨_, rfl, _, _, false, rfl, fun u r => r, T.kit_Refused_NoDeed, exd, _, rfl, _, _, true, rfl, fun u r => r, T.kit_Refused_Refused, exd, _, rfl, _, _, false, rfl, fun u r => r, T.kit_Refused_Full, exd, by show 3 ≤ sizeLine; decide, fun L1 hL1 => ?_⟩
    have k2 : Kp N [] H (upd H1 L1 (.lst [.bl false, .bl true, .bl false])) := k1.new hL1
    have eL : (upd H1 L1 (.lst [.bl false, .bl true, .bl false])) L1 = some (.lst [.bl false, .bl true, .bl false]) := upd_same
    have ex2 : (upd H1 L1 (.lst [.bl false, .bl true, .bl false])) dx = some (.xd [(("deed" : Str), .ref d)]) := (upd_ne (ne_of_none ex hL1)).trans ex
    generalize upd H1 L1 (.lst [.bl false, .bl true, .bl false]) = H2 at *
    refine ⟨_, rfl, .inl ⟨rfl, _, .of eL⟩, L1, [false, true, false], rfl, rfl, .of eL, _, _, rfl, rfl, _, rfl, if_f (by decide) ?_⟩
    refine ⟨_, rfl, L1, _, 2, .bl false, rfl, rfl, .of eL, rfl, _, rfl, if_f rfl ?_⟩
    refine ⟨by show 2 ≤ sizeLine; decide, fun L2' hL2 => ?_⟩
    have k3 : Kp N [] H2 (upd H2 L2' (.lst [.str (S [110, 111, 110, 101]), .str (S refused)])) := Kp.refl.new hL2
    have eL2 : (upd H2 L2' (.lst [.str (S [110, 111, 110, 101]), .str (S refused)])) L2' = some (.lst [.str (S [110, 111, 110, 101]), .str (S refused)]) := upd_same
    have eL3 := k3 _ _ eL (.inl (by simp))
    have ex3 := k3 _ _ ex2 (.inl (by simp))
    generalize upd H2 L2' (.lst [.str (S [110, 111, 110, 101]), .str (S refused)]) = H3 at *
    refine ⟨_, rfl, .inl ⟨rfl, _, .of eL3⟩, L1, _, .bl true, 1, .bl true, rfl, rfl, .of eL3, rfl, rfl, rfl, rfl, fun m z' hm hz => ?_, L2', _, 1, .str (S refused), rfl, rfl, .of eL2, rfl, _, rfl, rfl, rfl, dx, _, _, rfl, ex3, rfl, by show 2 ≤ sizeLine; decide, fun p hp => ?_⟩
    · have : m = 0 := by omega
      subst this
      cases hz
      rfl
    · exact qf hc _ p ((k2.then k3).new hp) upd_same
theorem ok_l_did (T : Txt K w mg N) : FnR Pw w K mg base CX0 13 N.l_did (sp_l_did K N) := by
  obtain ⟨fd, F, b⟩ := T.d_l_did
  exact mk_fn F b sc_l_did (fun vs H Q E h => by (repeat (first | (obtain ⟨rfl, _⟩ := h; rfl) | (obtain ⟨_, h⟩ := h)))) fun cdv A outer s H vs Q E hr h => ⟨t_l_did K N, (PSs.nox (by exact (pss_one (ps_try_as (i := 2) (tb := tb_l_did K N) (ts := ts_l_did K N) (Wout := fun _ _ _ _ => False) rfl rfl sc_l_did.nd rfl rfl ⟨rfl, by decide, Or.inl T.g_WaveError⟩ takes0
 (fun W pn xe tk _ => by exact (pss_one (ps_ret (pe_tup (pa_cons (pe_lit (l := [116, 111, 108, 100]) (by decide +kernel)) (pa_cons (pe_methSlS (pv 0) T.c_Game T.m_Game_do (ok_Game_do T) (hr.mono (by decide)) (passAt tk) (pa_cons (pv 1) pa_nil)) pa_nil))))))
 (fun a oe cls d pn hz hf => pss_when fun ec => by subst ec; exact (pss_cons (ps_set (i := 3) sc_l_did.nd rfl (Or.inl rfl) (pe_lst (pa_cons (pe_callB (call_isD T.ec_Refused hz hf) rfl T.n_isinstance bt_isinstance (pa_cons (pv 2) (pa_cons (pe_glob rfl T.g_NoDeed rfl) pa_nil))) (pa_cons (pe_callB (call_isD T.ec_Refused hz hf) rfl T.n_isinstance bt_isinstance (pa_cons (pv 2) (pa_cons (pe_glob rfl T.g_Refused rfl) pa_nil))) (pa_cons (pe_callB (call_isD T.ec_Refused hz hf) rfl T.n_isinstance bt_isinstance (pa_cons (pv 2) (pa_cons (pe_glob rfl T.g_Full rfl) pa_nil))) pa_nil)))))
 (pss_cons (ps_if (pt_cmpR op_neI (pe_bm PySem.F.plainAttrs_list PySem.F.slot_list_count PySem.F.type_list_count mt_cntB (pv 3) (pa_cons pe_bl pa_nil)) pe_int (nomark _)) pss_never pss_nil)
 (pss_one (ps_ret (pe_ifExp (pt_val (pe_ix ix_list (pv 3) pe_int (fun _ _ => rfl))) (pe_tup (pa_cons (pe_lit (l := [102, 117, 108, 108]) (by decide +kernel)) (pa_cons pe_never pa_nil))) (pe_tup (pa_cons (pe_ix ix_list (pe_lst (pa_cons (pe_lit (l := [110, 111, 110, 101]) (by decide +kernel)) (pa_cons (pe_lit (l := [114, 101, 102, 117, 115, 101, 100]) (by decide +kernel)) pa_nil))) (pe_bm PySem.F.plainAttrs_list PySem.F.slot_list_index PySem.F.type_list_index mt_index (pv 3) (pa_cons pe_bl pa_nil)) (fun _ _ => rfl)) (pa_cons (pe_xf T.xf_Refused T.no_deed hz hf (pv 2)) pa_nil))))))))))))), pure_l_did T vs H Q E h⟩
end
end Sw
namespace Sw
open PySem PySem.Spec PyProof.Rows L2
open SX (S S_cat S_len S_inj)
open SlX (SlO SlR putS slH)
section
variable {K : PySem.W.Frag} {w : World} {mg : Str → Option Value} {N : Nm} {base : Heap}
/-- what stands_so compares -/
def soD (M : Mom) (ds : List Deed) : PyData := .list [.str (S M.t), .list (M.hs.map PyData.int), .int M.bt, .list (ds.map deedD), .int ds.length, .str (S M.tab), .int M.r]
theorem okT_lt {r : Nat} {t : List Nat} (hr : r ≤ 2) (h : OkT r t) : ∀ c ∈ t, c < 1000 := fun c hc => by have := h c hc; omega
theorem nice_ints {hs : List Int} {n : Nat} (h : ∀ s ∈ hs, 0 ≤ s ∧ s < (n : Int)) (hn : n ≤ 100000) : NiceAll hs.length 0 (hs.map PyData.int) := by
  have := NiceAll.of (n := 0) (dp := 0) (ds := hs.map PyData.int) fun x hx => by
    obtain ⟨s, hs', rfl⟩ := List.mem_map.mp hx
    have := h s hs'
    exact Nice.int (by have : (100000 : Nat) < 10 ^ 45 := by decide
                       omega)
  rw [List.length_map] at this
  simpa using this
theorem nice_so {n r k : Nat} {M : Mom} {ds : List Deed} (ok : MomOk n r k M) (hk : k ≤ 500) (wf : ∀ d ∈ ds, Wf n r d) (hds : ds.length ≤ 500) : Nice 20000 3 (soD M ds) := by
  have n1 := ok.n1
  have h45 : (1000000 : Nat) < 10 ^ 45 := by decide
  have hb1 := ok.b1
  have hb0 := ok.b0
  have hln := ok.len
  have hl := ok.hl
  have h1 : Nice 100 2 (.str (S M.t)) := (Nice.str (okT_lt ok.r2 ok.ok) (by omega)).mono (Nat.le_refl _) (by decide)
  have h2 : Nice 600 2 (.list (M.hs.map PyData.int)) := (nice_ints ok.hs (by omega)).list.mono (by omega) (by decide)
  have h3 : Nice 0 2 (.int M.bt) := (Nice.int (by omega)).mono (Nat.le_refl _) (by decide)
  have h4 : Nice 12000 2 (.list (ds.map deedD)) := (nice_deeds ok.n1 ok.r2 wf).list.mono (by omega) (by decide)
  have h5 : Nice 0 2 (.int ds.length) := (Nice.int (by omega)).mono (Nat.le_refl _) (by decide)
  have h6 : Nice 4 2 (.str (S M.tab)) := (Nice.str (fun c hc => by rcases ok.tab.2 c hc with z | z <;> omega) (by rw [ok.tab.1]; decide)).mono (Nat.le_refl _) (by decide)
  have h7 : Nice 0 2 (.int M.r) := (Nice.int (by rw [ok.rr]; have := ok.r2; omega)).mono (Nat.le_refl _) (by decide)
  exact (NiceAll.cons h1 (.cons h2 (.cons h3 (.cons h4 (.cons h5 (.cons h6 (.cons h7 .nil))))))).list.mono (by decide) (by decide)
theorem dp_so {H : Hp} {a p l : Addr} {M : Mom} {ds : List Deed} {lv : List V} (ea : H a = some (.lst [.str (S M.t), .ref p, .int M.bt, .ref l, .int ds.length, .str (S M.tab), .int M.r])) (ep : H p = some (.lst (M.hs.map V.int))) (el : H l = some (.lst lv)) (ld : DeedsV H lv ds) :
    Dp K H (.ref a) (soD M ds) :=
  .lst (.of ea) (.cons (.str _) (.cons (.lst (.of ep) (dp_ints _)) (.cons (.int _) (.cons (.lst (.of el) (dp_deeds ld)) (.cons (.int _) (.cons (.str _) (.cons (.int _) .nil)))))))
def sp_l_stands_so (K : PySem.W.Frag) (N : Nm) : Sp := fun vs H Q E => ∃ (g p L : Addr) (own : List Addr) (G : GS) (n r : Nat), vs = [.ref g, .ref p, .str (S G.t), .ref L] ∧ GameAt N H g own G ∧ GsOk n r G ∧ H p = some (.tup [.str (S G.tab), .int G.r]) ∧ LogAt H L G.log ∧ ∀ H', Kp N [] H H' → Q (.bl true) H'
def t_l_stands_so (K : PySem.W.Frag) (N : Nm) : TS :=
 (tSeq (tAsg (tCl (sp_l_moment K N) E0 (tCons (tVar 1) (tCons (tVar 2) (tCons (tVar 3) tNil)))) (gTup K 4 (gCons (gName 5) (gCons (gName 6) (gCons (gName 7) (gCons (gName 8) gNil))))))
 (tSeq (tAsg (tLst (tCons (SlX.tPropSl N.Game (sp_Game_text K N) E0 (tVar 0)) (tCons (SlX.tMethSl N.Game (sp_Game_held K N) E0 (tVar 0) tNil) (tCons (SlX.tPropSl N.Game (sp_Game_beats K N) E0 (tVar 0)) (tCons (SlX.tMethSl N.Game (sp_Game_log K N) E0 (tVar 0) tNil) (tCons (tCB (rLenOwn N.Game (sp_Game_len K N) E0) (tCons (tVar 0) tNil)) (tCons (SlX.tPropSl N.Rule (sp_Rule_table K N) E0 (SlX.tPropSl N.Game (sp_Game_rule K N) E0 (tVar 0))) (tCons (SlX.tPropSl N.Rule (sp_Rule_rests K N) E0 (SlX.tPropSl N.Game (sp_Game_rule K N) E0 (tVar 0))) tNil)))))))) (gName 4))
 (tRet (tCl (sp_l_alike K N) E0 (tCons (tVar 4) (tCons (tLst (tCons (tVar 6) (tCons (tVar 7) (tCons (tVar 8) (tCons (tVar 3) (tCons (tCB (rLenQ K) (tCons (tVar 3) tNil)) (tCons (tOp (rIxT K) (tVar 5) (tC (.int 0))) (tCons (tOp (rIxT K) (tVar 5) (tC (.int 1))) tNil)))))))) tNil))))))
theorem pure_l_stands_so (T : Txt K w mg N) (vs : List V) (H : Hp) (Q : VK) (E : XK) (h : sp_l_stands_so K N vs H Q E) : t_l_stands_so K N (Eo Q) (start nm_l_stands_so vs) H := by
  obtain ⟨g, p, L, own, G, n, r, rfl, ga, ok, ep, la, q⟩ := h
  have hsz := ok.sz
  have okm := ok.mom
  have ok0 : MomOk n G.r 0 (mom0 G.tab G.r G.t) := mom0_ok ok.tab (by rw [ok.rr]; exact ok.r2) ok.n0 ok.n1 ok.len (by rw [ok.rr]; exact ok.ok)
  refine ⟨_, rfl, _, rfl, _, rfl, p, G.tab, n, G.r, G.t, L, G.log, rfl, ep, la, ok0, by rw [ok.rr]; exact ok.log, by omega, fun qq sl H1 mv k1 nsl => ?_⟩
  obtain ⟨mp, eqq, emp, esl⟩ := mv
  refine ⟨qq, _, rfl, .of eqq, rfl, _, _, rfl, _, _, rfl, _, _, rfl, _, _, rfl, rfl, ?_⟩
  have ga1 := ga.keep k1 (by simp)
  obtain ⟨dg, a0, L0, U0, m0, ownM, ho, sa1, _⟩ := id ga1
  -- the seven
  refine ⟨_, rfl, g, dg, _, rfl, sa1.slt, g, own, G, rfl, ga1, ?_⟩
  refine ⟨_, rfl, g, dg, _, rfl, sa1.slt, g, own, G, rfl, ga1, fun p1 hp1 => ?_⟩
  have k2 : Kp N [] H1 (upd H1 p1 (.lst (G.mom.hs.map V.int))) := Kp.refl.new hp1
  have ep1 : (upd H1 p1 (.lst (G.mom.hs.map V.int))) p1 = some (.lst (G.mom.hs.map V.int)) := upd_same
  have ga2 := ga1.keep k2 (by simp)
  have sa2 := sa1.keep k2 (by simp)
  generalize upd H1 p1 (.lst (G.mom.hs.map V.int)) = H2 at *
  refine ⟨_, rfl, g, dg, _, rfl, sa2.slt, g, own, G, rfl, ga2, ?_⟩
  refine ⟨_, rfl, g, dg, _, rfl, sa2.slt, g, own, G, rfl, ga2, fun p2 lv hp2 ld => ?_⟩
  have k3 : Kp N [] H2 (upd H2 p2 (.lst lv)) := Kp.refl.new hp2
  have ep2 : (upd H2 p2 (.lst lv)) p2 = some (.lst lv) := upd_same
  have ga3 := ga2.keep k3 (by simp)
  have sa3 := sa2.keep k3 (by simp)
  have ld3 := ld.keep k3
  generalize upd H2 p2 (.lst lv) = H3 at *
  refine ⟨_, rfl, g, dg, _, rfl, sa3.slt, g, own, G, rfl, ga3, _, rfl, by omega, by omega, ?_⟩
  refine ⟨_, rfl, g, dg, _, rfl, sa3.slt, g, own, G, rfl, ga3, fun ra rat => ?_⟩
  obtain ⟨dr, er⟩ := id rat
  refine ⟨ra, dr, _, rfl, er.slt, ra, _, _, rfl, rat, ?_⟩
  refine ⟨_, rfl, g, dg, _, rfl, sa3.slt, g, own, G, rfl, ga3, fun rb rbt => ?_⟩
  obtain ⟨dr2, er2⟩ := id rbt
  refine ⟨rb, dr2, _, rfl, er2.slt, rb, _, _, rfl, rbt, by show 7 ≤ sizeLine; decide, fun p3 hp3 => ?_⟩
  have k4 : Kp N [] H3 (upd H3 p3 (.lst [.str (S G.mom.t), .ref p1, .int G.mom.bt, .ref p2, .int G.log.length, .str (S G.mom.tab), .int G.mom.r])) := Kp.refl.new hp3
  have ep3 : (upd H3 p3 (.lst [.str (S G.mom.t), .ref p1, .int G.mom.bt, .ref p2, .int G.log.length, .str (S G.mom.tab), .int G.mom.r])) p3 = some (.lst [.str (S G.mom.t), .ref p1, .int G.mom.bt, .ref p2, .int G.log.length, .str (S G.mom.tab), .int G.mom.r]) := upd_same
  generalize upd H3 p3 (.lst [.str (S G.mom.t), .ref p1, .int G.mom.bt, .ref p2, .int G.log.length, .str (S G.mom.tab), .int G.mom.r]) = H4 at *
  have k14 : Kp N [] H1 H4 := (k2.then k3).then k4
  obtain ⟨lv4, el4, ld4⟩ := (la.keep (k1.then k14) (by simp) : LogAt H4 L G.log)
  have emp4 := k14 _ _ emp (.inl (by simp))
  have esl4 := k14 _ _ esl (.inl (by simp))
  -- alike
  refine ⟨_, rfl, _, rfl, _, rfl, _, rfl, _, rfl, _, rfl, L, _, rfl, .inl (.of el4), _, rfl, mp, _, _, _, rfl, rfl, .of emp4, rfl, _, rfl, mp, _, _, _, rfl, rfl, .of emp4, rfl, by show 7 ≤ sizeLine; decide, fun p4 hp4 => ?_⟩
  rw [ld4.length]
  have k5 : Kp N [] H4 (upd H4 p4 (.lst [.str (S G.mom.t), .ref sl, .int G.mom.bt, .ref L, .int G.log.length, .str (S G.mom.tab), .int G.mom.r])) := Kp.refl.new hp4
  refine ⟨p3, p4, soD G.mom G.log, 20000, 3, rfl, ?_, ?_, nice_so okm (by omega) ok.log (by omega), by decide, by decide, q _ ((k1.then k14).then k5)⟩
  · exact dp_so (k5 _ _ ep3 (.inl (by simp))) (k5 _ _ (k4 _ _ (k3 _ _ ep1 (.inl (by simp))) (.inl (by simp))) (.inl (by simp))) (k5 _ _ (k4 _ _ ep2 (.inl (by simp))) (.inl (by simp))) ((ld3.keep k4).keep k5)
  · exact dp_so upd_same (k5 _ _ esl4 (.inl (by simp))) (k5 _ _ el4 (.inl (by simp))) (ld4.keep k5)
theorem ok_l_stands_so (T : Txt K w mg N) : FnG Pw w K mg base CX0 7 N.l_stands_so (sp_l_stands_so K N) := by
  obtain ⟨fd, F, b⟩ := T.d_l_stands_so
  exact mk_fnG F b sc_l_stands_so (fun vs H Q E h => by (repeat (first | (obtain ⟨rfl, _⟩ := h; rfl) | (obtain ⟨_, h⟩ := h)))) fun cdv A outer s H vs Q E hr hG h => ⟨t_l_stands_so K N, (PSs.nox (by exact (pss_cons (ps_asg (pe_cl (ok_l_moment T) (hr.mono (by decide)) rfl T.g_l_moment T.k_l_moment pass0 (pa_cons (pv 1) (pa_cons (pv 2) (pa_cons (pv 3) pa_nil)))) (pg_tup rfl (pgs_cons (pg_name (i := 5) sc_l_stands_so.nd rfl (Or.inl rfl)) (pgs_cons (pg_name (i := 6) sc_l_stands_so.nd rfl (Or.inl rfl)) (pgs_cons (pg_name (i := 7) sc_l_stands_so.nd rfl (Or.inl rfl)) (pgs_cons (pg_name (i := 8) sc_l_stands_so.nd rfl (Or.inl rfl)) pgs_nil))))))
 (pss_cons (ps_set (i := 4) sc_l_stands_so.nd rfl (Or.inl rfl) (pe_lst (pa_cons (SlX.pe_propSl (pv 0) T.c_Game T.p_Game_text.at_ T.p_Game_text.get T.p_Game_text.tak T.p_Game_text.rec_ (ok_Game_text T) (hr.mono (by decide)) (fun _ _ _ _ z => z)) (pa_cons (SlX.pe_methSl0 (pv 0) T.c_Game T.m_Game_held (ok_Game_held T) (hr.mono (by decide)) pass0) (pa_cons (SlX.pe_propSl (pv 0) T.c_Game T.p_Game_beats.at_ T.p_Game_beats.get T.p_Game_beats.tak T.p_Game_beats.rec_ (ok_Game_beats T) (hr.mono (by decide)) (fun _ _ _ _ z => z)) (pa_cons (SlX.pe_methSl0 (pv 0) T.c_Game T.m_Game_log (ok_Game_log T) (hr.mono (by decide)) pass0) (pa_cons (pe_callB (call_lenOwn T.len_Game T.fn_Game_len (ok_Game_len T) (hr.mono (by decide)) pass0) rfl T.n_len bt_len (pa_cons (pv 0) pa_nil)) (pa_cons (SlX.pe_propSl (SlX.pe_propSl (pv 0) T.c_Game T.p_Game_rule.at_ T.p_Game_rule.get T.p_Game_rule.tak T.p_Game_rule.rec_ (ok_Game_rule T) (hr.mono (by decide)) (fun _ _ _ _ z => z)) T.c_Rule T.p_Rule_table.at_ T.p_Rule_table.get T.p_Rule_table.tak T.p_Rule_table.rec_ (ok_Rule_table T) (hr.mono (by decide)) (fun _ _ _ _ z => z)) (pa_cons (SlX.pe_propSl (SlX.pe_propSl (pv 0) T.c_Game T.p_Game_rule.at_ T.p_Game_rule.get T.p_Game_rule.tak T.p_Game_rule.rec_ (ok_Game_rule T) (hr.mono (by decide)) (fun _ _ _ _ z => z)) T.c_Rule T.p_Rule_rests.at_ T.p_Rule_rests.get T.p_Rule_rests.tak T.p_Rule_rests.rec_ (ok_Rule_rests T) (hr.mono (by decide)) (fun _ _ _ _ z => z)) pa_nil)))))))))
 (pss_one (ps_ret (pe_clG (ok_l_alike T) (hr.mono (by decide)) hG rfl T.g_l_alike T.k_l_alike pass0 (pa_cons (pv 4) (pa_cons (pe_lst (pa_cons (pv 6) (pa_cons (pv 7) (pa_cons (pv 8) (pa_cons (pv 3) (pa_cons (pe_callB call_len_seq rfl T.n_len bt_len (pa_cons (pv 3) pa_nil)) (pa_cons (pe_ix ix_tup (pv 5) pe_int (fun _ _ => rfl)) (pa_cons (pe_ix ix_tup (pv 5) pe_int (fun _ _ => rfl)) pa_nil)))))))) pa_nil))))))))), pure_l_stands_so T vs H Q E h⟩
def sp_l_begun (K : PySem.W.Frag) (N : Nm) : Sp := fun vs H Q E => ∃ (b cl : Addr), vs = [.ref b] ∧ BagAt H b cl ∧ ∀ p mp tab (r : Nat) t H', OkTab tab → r ≤ 2 → t ≠ [] → t.length ≤ 12 → OkT r t → H' p = some (.tup [.ref mp, .str (S t)]) → H' mp = some (.tup [.str (S tab), .int r]) → BagAt H' b cl → Kp N [b] H H' → Q (.ref p) H'
def t_l_begun (K : PySem.W.Frag) (N : Nm) : TS :=
 (tSeq (tAsg (tCl (sp_l_rule K N) E0 (tCons (tVar 0) tNil)) (gName 1))
 (tRet (tTup (tCons (tVar 1) (tCons (tCl (sp_l_text K N) E0 (tCons (tVar 0) (tCons (tOp (rIxT K) (tVar 1) (tC (.int 1))) (tCons (tOp (rIxL K) (tLst (tCons (tC (.int 3)) (tCons (tC (.int 12)) tNil))) (tCl (sp_l_take K N) E0 (tCons (tVar 0) (tCons (tC (.int 2)) tNil)))) tNil)))) tNil)))))
theorem pure_l_begun (T : Txt K w mg N) (vs : List V) (H : Hp) (Q : VK) (E : XK) (h : sp_l_begun K N vs H Q E) : t_l_begun K N (Eo Q) (start nm_l_begun vs) H := by
  obtain ⟨b, cl, rfl, bag, q⟩ := h
  refine ⟨_, rfl, b, cl, rfl, bag, fun tab r mp H1 ht hr emp _ bag1 k1 => ?_⟩
  refine ⟨_, rfl, _, rfl, _, rfl, mp, _, _, _, rfl, rfl, .of emp, rfl, by show 2 ≤ sizeLine; decide, fun L hL => ?_⟩
  have k2 : Kp N [b] H1 (upd H1 L (.lst [.int 3, .int 12])) := Kp.refl.new hL
  have eL : (upd H1 L (.lst [.int 3, .int 12])) L = some (.lst [.int 3, .int 12]) := upd_same
  have bag2 := bag_new (o := .lst [.int 3, .int 12]) bag1 hL
  have Lb := bag_fresh bag1 hL
  have emp2 := k2 _ _ emp (.inr Prm.tup)
  generalize upd H1 L (.lst [.int 3, .int 12]) = H2 at *
  refine ⟨_, rfl, b, cl, 2, rfl, bag2, by decide, by decide, fun j H3 hj bag3 k3 => ?_⟩
  have eL3 := k3 _ _ eL (.inl (by simp [Lb]))
  obtain ⟨mo, hmo, hm1, hm2⟩ : ∃ mo : Nat, atI [V.int 3, .int 12] ((j : Nat) : Int) = some (.int mo) ∧ 1 ≤ mo ∧ mo ≤ 12 := by
    have : j = 0 ∨ j = 1 := by omega
    rcases this with rfl | rfl
    · exact ⟨3, rfl, by decide, by decide⟩
    · exact ⟨12, rfl, by decide, by decide⟩
  refine ⟨L, _, _, _, rfl, rfl, .of eL3, hmo, b, cl, r, mo, rfl, bag3, hr, hm1, by omega, fun t H4 hne hl okt bag4 k4 => ⟨by show 2 ≤ sizeLine; decide, fun p hp => ?_⟩⟩
  have emp4 := k4 _ _ (k3 _ _ emp2 (.inr Prm.tup)) (.inr Prm.tup)
  exact q p mp tab r t _ ht hr hne (by omega) okt upd_same ((upd_ne (ne_of_none emp4 hp)).trans emp4) (bag_new bag4 hp) ((((k1.then k2).then k3).then k4).new hp)
theorem ok_l_begun (T : Txt K w mg N) : FnR Pw w K mg base CX0 6 N.l_begun (sp_l_begun K N) := by
  obtain ⟨fd, F, b⟩ := T.d_l_begun
  exact mk_fn F b sc_l_begun (fun vs H Q E h => by (repeat (first | (obtain ⟨rfl, _⟩ := h; rfl) | (obtain ⟨_, h⟩ := h)))) fun cdv A outer s H vs Q E hr h => ⟨t_l_begun K N, (PSs.nox (by exact (pss_cons (ps_set (i := 1) sc_l_begun.nd rfl (Or.inl rfl) (pe_cl (ok_l_rule T) (hr.mono (by decide)) rfl T.g_l_rule T.k_l_rule pass0 (pa_cons (pv 0) pa_nil)))
 (pss_one (ps_ret (pe_tup (pa_cons (pv 1) (pa_cons (pe_cl (ok_l_text T) (hr.mono (by decide)) rfl T.g_l_text T.k_l_text pass0 (pa_cons (pv 0) (pa_cons (pe_ix ix_tup (pv 1) pe_int (fun _ _ => rfl)) (pa_cons (pe_ix ix_list (pe_lst (pa_cons pe_int (pa_cons pe_int pa_nil))) (pe_cl (ok_l_take T) (hr.mono (by decide)) rfl T.g_l_take T.k_l_take pass0 (pa_cons (pv 0) (pa_cons pe_int pa_nil))) (fun _ _ => rfl)) pa_nil)))) pa_nil)))))))), pure_l_begun T vs H Q E h⟩
end
end Sw
namespace Sw
open PySem PySem.Spec PyProof.Rows L2
open SX (S S_cat S_len S_inj)
open SlX (SlO SlR putS slH)
theorem GsOk.did {n r : Nat} {G : GS} {D : Deed} (h : GsOk n r G) (w : Wf n r D) (hs : G.log.length < 190) : GsOk n r { G with log := G.log ++ [D], gone := [] } :=
  ⟨h.rr, h.r2, h.tab, h.n0, h.n1, h.len, h.ok, fun d hd => by rcases List.mem_append.mp hd with z | z; (· exact h.log d z); (· rw [List.mem_singleton.mp z]; exact w), fun d hd => absurd hd (by simp), by simp; omega⟩
theorem GsOk.undone {n r : Nat} {G : GS} {D : Deed} {l : List Deed} (h : GsOk n r G) (e : G.log = l ++ [D]) : GsOk n r { G with log := l, gone := G.gone ++ [D] } :=
  ⟨h.rr, h.r2, h.tab, h.n0, h.n1, h.len, h.ok, fun d hd => h.log d (by rw [e]; simp [show d ∈ l from hd]), fun d hd => by rcases List.mem_append.mp hd with z | z; (· exact h.gone d z); (· rw [List.mem_singleton.mp z]; exact h.log D (by rw [e]; simp)), by have := h.sz; rw [e] at this; simp at this ⊢; omega⟩
theorem GsOk.redone {n r : Nat} {G : GS} {D : Deed} {l : List Deed} (h : GsOk n r G) (e : G.gone = l ++ [D]) : GsOk n r { G with log := G.log ++ [D], gone := l } :=
  ⟨h.rr, h.r2, h.tab, h.n0, h.n1, h.len, h.ok, fun d hd => by rcases List.mem_append.mp hd with z | z; (· exact h.log d z); (· rw [List.mem_singleton.mp z]; exact h.gone D (by rw [e]; simp)), fun d hd => h.gone d (by rw [e]; simp [show d ∈ l from hd]), by have := h.sz; rw [e] at this; simp at this ⊢; omega⟩
section
variable {K : PySem.W.Frag} {w : World} {mg : Str → Option Value} {N : Nm} {base : Heap}
/-- the two lists as the way has them -/
def Two (H : Hp) (A B : Addr) (way : Nat) (G : GS) : Prop := (way = 0 ∧ LogAt H A G.log ∧ LogAt H B G.gone) ∨ (way = 1 ∧ LogAt H A G.gone ∧ LogAt H B G.log)
def sp_l_turned_back (K : PySem.W.Frag) (N : Nm) : Sp := fun vs H Q E => ∃ (g LL A B : Addr) (own : List Addr) (G : GS) (n r way : Nat), vs = [.ref g, .ref LL, .int way] ∧ GameAt N H g own G ∧ GsOk n r G ∧ H LL = some (.lst [.ref A, .ref B]) ∧ A ≠ B ∧ A ∉ own ∧ B ∉ own ∧ LL ∉ own ∧ LL ≠ A ∧ LL ≠ B ∧ Two H A B way G ∧
  ∀ H' own' G', GameAt N H' g own' G' → Grow H own own' → Kp N (A :: B :: own) H H' → G'.tab = G.tab → G'.r = G.r → G'.t = G.t → GsOk n r G' → G'.log.length + G'.gone.length = G.log.length + G.gone.length → Two H' A B way G' → Q (.bl true) H'
def tb_l_turned_back (K : PySem.W.Frag) (N : Nm) (W : WX) : TS :=
 (tAsg (tTup (tCons (tC (.str (S [116, 111, 108, 100]))) (tCons (tIf (tTest (tOp rEqI (tVar 2) (tC (.int 0)))) (tAt fun σ0 => SlX.tMethSl N.Game (sp_Game_undo K N) (WE W σ0) (tVar 0) tNil) (tAt fun σ0 => SlX.tMethSl N.Game (sp_Game_redo K N) (WE W σ0) (tVar 0) tNil)) tNil))) (gName 4))
def ts_l_turned_back (K : PySem.W.Frag) (N : Nm) (a : Addr) (cls : Value) (d : Option Addr) : TS := fun D σ H => cls = .ref N.Nothing ∧
 (tAsg (tIf (tAnd (tB (tCB (rIsD K N.Nothing a d) (tCons (tVar 3) (tCons (tC (.ref N.Nothing)) tNil)))) (tNot (tB (tCB (rIsD K N.Nothing a d) (tCons (tVar 3) (tCons (tC (.ref N.NoEntry)) tNil)))))) (tTup (tCons (tC (.str (S [110, 111, 116, 104, 105, 110, 103]))) (tCons (tC .non) tNil))) (tTup (tCons (tC (.str (S [111, 116, 104, 101, 114]))) (tCons (tC .non) tNil)))) (gName 4)) D σ H
def t_l_turned_back (K : PySem.W.Frag) (N : Nm) : TS :=
 (C8.tCut (fun D σ H => tb_l_turned_back K N (wAs K (.ref N.WaveError) 3 (ts_l_turned_back K N) (fun _ _ _ _ => False) D) D σ H)
 (tSeq (tIfS (tTest (tOp (rEqD K) (tOp (rIxL K) (tVar 1) (tC (.int 0))) (tLst tNil)))
 (tRet (tOp (rEqD K) (tVar 4) (tTup (tCons (tC (.str (S [110, 111, 116, 104, 105, 110, 103]))) (tCons (tC .non) tNil))))) tNext)
 (tSeq (tDrop (tBM K "list" rAppend (tOp (rIxL K) (tVar 1) (tC (.int 1))) (tCons (tBM0 K "list" rPop (tOp (rIxL K) (tVar 1) (tC (.int 0)))) tNil)))
 (tRet (tCl (sp_l_alike K N) E0 (tCons (tVar 4) (tCons (tTup (tCons (tC (.str (S [116, 111, 108, 100]))) (tCons (tOp (rIxL K) (tOp (rIxL K) (tVar 1) (tC (.int 1))) (tUn (rU fun i => .int (-i)) (tC (.int 1)))) tNil))) tNil)))))))
theorem lst_nil {H : Hp} {A : Addr} (h : LogAt H A []) : H A = some (.lst []) := by
  obtain ⟨vs, e, d⟩ := h
  have := d.length
  rw [List.length_nil, List.length_eq_zero_iff] at this
  rw [this] at e
  exact e
theorem pure_l_turned_back (T : Txt K w mg N) (vs : List V) (H : Hp) (Q : VK) (E : XK) (h : sp_l_turned_back K N vs H Q E) : t_l_turned_back K N (Eo Q) (start nm_l_turned_back vs) H := by
  obtain ⟨g, LL, A, B, own, G, n, r, way, rfl, ga, ok, eLL, hAB, hA, hB, hLL, hLA, hLB, two, q⟩ := h
  obtain ⟨dg, a0, L0, U0, m, ownM, ho, sa, _⟩ := id ga
  have hsz := ok.sz
  let Mid : L2.St → Hp → Prop := fun σ H1 => ∃ f, σ = [some (.ref g), some (.ref LL), some (.int way), none, some (.ref f)] ∧ H1 LL = some (.lst [.ref A, .ref B]) ∧
    ((H1 f = some (.tup [.str (S nothing), .non]) ∧ LogAt H1 A [] ∧ Kp N [] H H1) ∨
     (∃ l D dst own' d, H1 f = some (.tup [.str (S told), .ref d]) ∧ H1 d = some (.tup (dV D)) ∧ (∀ x ∈ l ++ [D], Wf n r x) ∧ Kp N own H H1 ∧ Grow H own own' ∧ LogAt H1 A (l ++ [D]) ∧ LogAt H1 B dst ∧ dst.length ≤ 190 ∧ l.length ≤ 190 ∧
        (∀ H', Kp N (A :: B :: own) H H' → Kp N [A, B] H1 H' → LogAt H' A l → LogAt H' B (dst ++ [D]) → Q (.bl true) H')))
  refine ⟨Mid, ?_, ?_⟩
  · show tb_l_turned_back K N _ _ _ _
    refine ⟨_, rfl, _, _, rfl, rfl, _, rfl, ?_⟩
    rcases two with ⟨rfl, la, lb⟩ | ⟨rfl, la, lb⟩
    · refine if_t (by decide) ⟨_, rfl, g, dg, _, rfl, sa.slt, g, own, G, n, r, rfl, ga, ok, fun hc H1 k1 => ?_, fun l D hl H1 own1 d ga1 k1 gr1 ed => ?_⟩
      · refine ⟨true, T.exm_Nothing, fun _ a ha => ⟨rfl, ?_⟩, fun z => nomatch z⟩
        refine ⟨_, rfl, _, _, true, rfl, fun u r => r, T.kit_Nothing_Nothing, fun dd z => (nomatch z), _, rfl, if_t rfl ⟨_, rfl, _, _, false, rfl, fun u r => r, T.kit_Nothing_NoEntry, fun dd z => (nomatch z), _, rfl, if_t rfl ⟨by show 2 ≤ sizeLine; decide, fun f hf => ?_⟩⟩⟩
        have k2 : Kp N [] H (upd H1 f (.tup [.str (S nothing), .non])) := k1.new hf
        refine ⟨f, rfl, k2 _ _ eLL (.inl (by simp)), .inl ⟨upd_same, ?_, k2⟩⟩
        rw [hc] at la
        exact la.keep k2 (by simp)
      · refine ⟨by show 2 ≤ sizeLine; decide, fun f hf => ?_⟩
        have kf : Kp N [] H1 (upd H1 f (.tup [.str (S told), .ref d])) := Kp.refl.new hf
        have k2 : Kp N own H (upd H1 f (.tup [.str (S told), .ref d])) := k1.new hf
        refine ⟨f, rfl, k2 _ _ eLL (.inl hLL), .inr ⟨l, D, G.gone, own1, d, upd_same, k2 _ _ ed (.inr Prm.tup), (fun x hx => ok.log x (by rw [hl]; exact hx)), k2, gr1, ?_, lb.keep k2 hB, by omega, ?_, fun H' kk ks l1 l2 => ?_⟩⟩
        · rw [← hl]; exact la.keep k2 hA
        · rw [hl] at hsz; simp at hsz; omega
        · have oA : A ∉ own1 := by
            obtain ⟨_, e, _⟩ := la
            exact not_grown hA gr1 e
          have oB : B ∉ own1 := by
            obtain ⟨_, e, _⟩ := lb
            exact not_grown hB gr1 e
          refine q H' own1 _ ((ga1.keep kf (by simp)).keep ks fun b hb => ?_) gr1 kk rfl rfl rfl (ok.undone hl) ?_ (.inl ⟨rfl, l1, l2⟩)
          · simp only [List.mem_cons, List.not_mem_nil, or_false]
            rintro (rfl | rfl)
            · exact oA hb
            · exact oB hb
          · rw [hl]; simp; omega
    · refine if_f (by decide) ⟨_, rfl, g, dg, _, rfl, sa.slt, g, own, G, n, r, rfl, ga, ok, fun hc H1 k1 => ?_, fun l D hl H1 own1 d ga1 k1 gr1 ed => ?_⟩
      · refine ⟨true, T.exm_Nothing, fun _ a ha => ⟨rfl, ?_⟩, fun z => nomatch z⟩
        refine ⟨_, rfl, _, _, true, rfl, fun u r => r, T.kit_Nothing_Nothing, fun dd z => (nomatch z), _, rfl, if_t rfl ⟨_, rfl, _, _, false, rfl, fun u r => r, T.kit_Nothing_NoEntry, fun dd z => (nomatch z), _, rfl, if_t rfl ⟨by show 2 ≤ sizeLine; decide, fun f hf => ?_⟩⟩⟩
        have k2 : Kp N [] H (upd H1 f (.tup [.str (S nothing), .non])) := k1.new hf
        refine ⟨f, rfl, k2 _ _ eLL (.inl (by simp)), .inl ⟨upd_same, ?_, k2⟩⟩
        rw [hc] at la
        exact la.keep k2 (by simp)
      · refine ⟨by show 2 ≤ sizeLine; decide, fun f hf => ?_⟩
        have kf : Kp N [] H1 (upd H1 f (.tup [.str (S told), .ref d])) := Kp.refl.new hf
        have k2 : Kp N own H (upd H1 f (.tup [.str (S told), .ref d])) := k1.new hf
        refine ⟨f, rfl, k2 _ _ eLL (.inl hLL), .inr ⟨l, D, G.log, own1, d, upd_same, k2 _ _ ed (.inr Prm.tup), (fun x hx => ok.gone x (by rw [hl]; exact hx)), k2, gr1, ?_, lb.keep k2 hB, by omega, ?_, fun H' kk ks l1 l2 => ?_⟩⟩
        · rw [← hl]; exact la.keep k2 hA
        · rw [hl] at hsz; simp at hsz; omega
        · have oA : A ∉ own1 := by
            obtain ⟨_, e, _⟩ := la
            exact not_grown hA gr1 e
          have oB : B ∉ own1 := by
            obtain ⟨_, e, _⟩ := lb
            exact not_grown hB gr1 e
          refine q H' own1 _ ((ga1.keep kf (by simp)).keep ks fun b hb => ?_) gr1 kk rfl rfl rfl (ok.redone hl) ?_ (.inr ⟨rfl, l1, l2⟩)
          · simp only [List.mem_cons, List.not_mem_nil, or_false]
            rintro (rfl | rfl)
            · exact oA hb
            · exact oB hb
          · rw [hl]; simp; omega
  · rintro σ H1 ⟨f, rfl, eLL1, (⟨ef, la, k1⟩ | ⟨l, D, dst, own1, d, ef, ed, wfD, k1, gr1, la, lb, hdst, hll, fin⟩)⟩
    · have eA := lst_nil la
      refine ⟨_, rfl, LL, _, 0, _, rfl, rfl, .of eLL1, rfl, by show 0 ≤ sizeLine; decide, fun e0 he0 => ?_⟩
      have k2 : Kp N [] H1 (upd H1 e0 (.lst [])) := Kp.refl.new he0
      have ee : (upd H1 e0 (.lst [])) e0 = some (.lst []) := upd_same
      have eA2 := k2 _ _ eA (.inl (by simp))
      have ef2 := k2 _ _ ef (.inl (by simp))
      generalize upd H1 e0 (.lst []) = H2 at *
      refine ⟨.list (([] : List Deed).map deedD), .list (([] : List Deed).map deedD), .lst (.of eA2) (dp_deeds .nil), .lst (.of ee) (dp_deeds .nil), nice_nil.shaped (by decide), nice_nil.shaped (by decide), _, rfl, ?_⟩
      rw [eqv_deeds, dec_rfl]
      refine if_t rfl ⟨_, rfl, by show 2 ≤ sizeLine; decide, fun tp htp => ?_⟩
      have k3 : Kp N [] H2 (upd H2 tp (.tup [.str (S nothing), .non])) := Kp.refl.new htp
      have nn : Nice 20 1 (.tuple [.str (S nothing), .none]) := (NiceAll.cons (Nice.str (n := 7) (by decide) (by decide)) (.cons Nice.non .nil)).tup.mono (by decide) (by decide)
      refine ⟨.tuple [.str (S nothing), .none], .tuple [.str (S nothing), .none], .tup (.of (k3 _ _ ef2 (.inl (by simp)))) (.cons (.str _) (.cons .non .nil)), .tup (.of upd_same) (.cons (.str _) (.cons .non .nil)), nn.shaped (by decide), nn.shaped (by decide), ?_⟩
      rw [nn.refl]
      have kk : Kp N [] H (upd H2 tp (.tup [.str (S nothing), .non])) := (k1.then k2).then k3
      refine q _ own G (ga.keep kk (by simp)) Grow.refl kk.up rfl rfl rfl ok rfl ?_
      rcases two with ⟨rfl, l1, l2⟩ | ⟨rfl, l1, l2⟩
      · exact .inl ⟨rfl, l1.keep kk (by simp), l2.keep kk (by simp)⟩
      · exact .inr ⟨rfl, l1.keep kk (by simp), l2.keep kk (by simp)⟩
    · obtain ⟨av, eA, ad⟩ := la
      obtain ⟨bv, eB, bd⟩ := lb
      obtain ⟨d2, ed2, hd2, hlen⟩ := last_of ad rfl
      have hbv := bd.length
      refine ⟨_, rfl, LL, _, 0, _, rfl, rfl, .of eLL1, rfl, by show 0 ≤ sizeLine; decide, fun e0 he0 => ?_⟩
      have k2 : Kp N [] H1 (upd H1 e0 (.lst [])) := Kp.refl.new he0
      have ee : (upd H1 e0 (.lst [])) e0 = some (.lst []) := upd_same
      have eA2 := k2 _ _ eA (.inl (by simp))
      have eB2 := k2 _ _ eB (.inl (by simp))
      have ef2 := k2 _ _ ef (.inl (by simp))
      have eLL2 := k2 _ _ eLL1 (.inl (by simp))
      have ed2' := k2 _ _ ed (.inl (by simp))
      have hd22 := k2 _ _ hd2 (.inl (by simp))
      have ad2 := ad.keep k2
      have bd2 := bd.keep k2
      generalize upd H1 e0 (.lst []) = H2 at *
      have nA : SeqAt.shaped (.list ((l ++ [D]).map deedD)) = true := (nice_deeds ok.n1 ok.r2 wfD).list.shaped (by decide)
      refine ⟨.list ((l ++ [D]).map deedD), .list (([] : List Deed).map deedD), .lst (.of eA2) (dp_deeds ad2), .lst (.of ee) (dp_deeds .nil), nA, nice_nil.shaped (by decide), _, rfl, ?_⟩
      rw [eqv_deeds]
      refine if_f (decide_eq_false (by simp)) ?_
      refine ⟨_, rfl, LL, _, 1, _, rfl, rfl, .of eLL2, rfl, .inl ⟨rfl, _, .of eB2⟩, _, rfl, LL, _, 0, _, rfl, rfl, .of eLL2, rfl, .inl ⟨rfl, _, .of eA2⟩, A, av, _, rfl, rfl, eA2, ed2, ?_⟩
      have k3 : Kp N [A, B] H2 (upd H2 A (.lst av.dropLast)) := Kp.refl.lst eA2 (.inl (by simp))
      have eB3 : (upd H2 A (.lst av.dropLast)) B = some (.lst bv) := (upd_ne (Ne.symm hAB)).trans eB2
      have eA3 : (upd H2 A (.lst av.dropLast)) A = some (.lst av.dropLast) := upd_same
      generalize upd H2 A (.lst av.dropLast) = H3 at *
      refine ⟨B, bv, _, rfl, rfl, eB3, size_ok (by omega), ?_⟩
      have k4 : Kp N [A, B] H2 (upd H3 B (.lst (bv ++ [.ref d2]))) := k3.lst eB3 (.inl (by simp))
      have eB4 : (upd H3 B (.lst (bv ++ [.ref d2]))) B = some (.lst (bv ++ [.ref d2])) := upd_same
      have eA4 : (upd H3 B (.lst (bv ++ [.ref d2]))) A = some (.lst av.dropLast) := (upd_ne hAB).trans eA3
      have eLL4 := k4 _ _ eLL2 (.inl (by simp [hLA, hLB]))
      have ef4 := k4 _ _ ef2 (.inr Prm.tup)
      have ed4 := k4 _ _ ed2' (.inr Prm.tup)
      have hd4 := k4 _ _ hd22 (.inr Prm.tup)
      have ad4 := ad2.keep k4
      have bd4 := bd2.keep k4
      generalize upd H3 B (.lst (bv ++ [.ref d2])) = H4 at *
      refine ⟨_, rfl, _, rfl, LL, _, 1, _, rfl, rfl, .of eLL4, rfl, 1, rfl, B, _, -1, _, rfl, rfl, .of eB4, atI_last _ _, by show 2 ≤ sizeLine; decide, fun tp htp => ?_⟩
      have k5 : Kp N [] H4 (upd H4 tp (.tup [.str (S told), .ref d2])) := Kp.refl.new htp
      have nn : Nice 40 2 (.tuple [.str (S told), deedD D]) := (NiceAll.cons ((Nice.str (n := 7) (by decide) (by decide)).mono (Nat.le_refl _) (by decide)) (.cons (nice_deed ok.n1 ok.r2 (wfD D (by simp))) .nil)).tup.mono (by decide) (by decide)
      refine ⟨f, tp, .tuple [.str (S told), deedD D], 40, 2, rfl, .tup (.of (k5 _ _ ef4 (.inl (by simp)))) (.cons (.str _) (.cons (dp_deed (k5 _ _ ed4 (.inl (by simp)))) .nil)), .tup (.of upd_same) (.cons (.str _) (.cons (dp_deed (k5 _ _ hd4 (.inl (by simp)))) .nil)), nn, by decide, by decide, ?_⟩
      have k15 : Kp N [A, B] H1 (upd H4 tp (.tup [.str (S told), .ref d2])) := (k2.up.then k4).then k5.up
      refine fin _ ((k1.mono fun x hx => .inl (by simp [hx])).then (k15.mono fun x hx => .inl (by simp at hx; rcases hx with rfl | rfl <;> simp))) k15 ⟨_, k5 _ _ eA4 (.inl (by simp)), ?_⟩ ⟨_, k5 _ _ eB4 (.inl (by simp)), (bd4.snoc hd4).keep k5⟩
      have := (ad4.dropLast).keep k5
      rw [List.dropLast_concat] at this
      exact this
theorem ok_l_turned_back (T : Txt K w mg N) : FnG Pw w K mg base CX0 17 N.l_turned_back (sp_l_turned_back K N) := by
  obtain ⟨fd, F, b⟩ := T.d_l_turned_back
  exact mk_fnG F b sc_l_turned_back (fun vs H Q E h => by (repeat (first | (obtain ⟨rfl, _⟩ := h; rfl) | (obtain ⟨_, h⟩ := h)))) fun cdv A outer s H vs Q E hr hG h => ⟨t_l_turned_back K N, (PSs.nox (by exact (C8.pss_cut (ps_try_as (i := 3) (tb := tb_l_turned_back K N) (ts := ts_l_turned_back K N) (Wout := fun _ _ _ _ => False) rfl rfl sc_l_turned_back.nd rfl rfl ⟨rfl, by decide, Or.inl T.g_WaveError⟩ takes0
 (fun W pn xe tk _ => by exact (pss_one (ps_set (i := 4) sc_l_turned_back.nd rfl (Or.inl rfl) (pe_tup (pa_cons (pe_lit (l := [116, 111, 108, 100]) (by decide +kernel)) (pa_cons (pe_ifExp (pt_cmpR op_eqI (pv 2) pe_int (nomark _)) (pe_methSl0S (pv 0) T.c_Game T.m_Game_undo (ok_Game_undo T) (hr.mono (by decide)) (passAt tk)) (pe_methSl0S (pv 0) T.c_Game T.m_Game_redo (ok_Game_redo T) (hr.mono (by decide)) (passAt tk))) pa_nil))))))
 (fun a oe cls d pn hz hf => pss_when fun ec => by subst ec; exact (pss_one (ps_set (i := 4) sc_l_turned_back.nd rfl (Or.inl rfl) (pe_ifExp (PW.pt (pw_and (pt_val (pe_callB (call_isD T.ec_Nothing hz hf) rfl T.n_isinstance bt_isinstance (pa_cons (pv 3) (pa_cons (pe_glob rfl T.g_Nothing rfl) pa_nil)))) (pw_and1 (pt_not (pt_val (pe_callB (call_isD T.ec_Nothing hz hf) rfl T.n_isinstance bt_isinstance (pa_cons (pv 3) (pa_cons (pe_glob rfl T.g_NoEntry rfl) pa_nil)))))))) (pe_tup (pa_cons (pe_lit (l := [110, 111, 116, 104, 105, 110, 103]) (by decide +kernel)) (pa_cons pe_non pa_nil))) (pe_tup (pa_cons (pe_lit (l := [111, 116, 104, 101, 114]) (by decide +kernel)) (pa_cons pe_non pa_nil))))))))
 (pss_cons (ps_if (pt_cmpR (op_eqD hr.units) (pe_ix ix_list (pv 1) pe_int (fun _ _ => rfl)) (pe_lst pa_nil) (nomark _)) (pss_one (ps_ret (pe_cmpR (op_eqD hr.units) (pv 4) (pe_tup (pa_cons (pe_lit (l := [110, 111, 116, 104, 105, 110, 103]) (by decide +kernel)) (pa_cons pe_non pa_nil))) (nomark _)))) pss_nil)
 (pss_cons (ps_expr (pe_bm PySem.F.plainAttrs_list PySem.F.slot_list_append PySem.F.type_list_append mt_append (pe_ix ix_list (pv 1) pe_int (fun _ _ => rfl)) (pa_cons (pe_bm0 PySem.F.plainAttrs_list PySem.F.slot_list_pop PySem.F.type_list_pop mt_pop (pe_ix ix_list (pv 1) pe_int (fun _ _ => rfl))) pa_nil)))
 (pss_one (ps_ret (pe_clG (ok_l_alike T) (hr.mono (by decide)) hG rfl T.g_l_alike T.k_l_alike pass0 (pa_cons (pv 4) (pa_cons (pe_tup (pa_cons (pe_lit (l := [116, 111, 108, 100]) (by decide +kernel)) (pa_cons (pe_ix ix_list (pe_ix ix_list (pv 1) pe_int (fun _ _ => rfl)) (pe_un un_neg pe_int) (fun _ _ => rfl)) pa_nil))) pa_nil)))))))))), pure_l_turned_back T vs H Q E h⟩
end
end Sw
namespace Sw
open PySem PySem.Spec PyProof.Rows L2
open SX (S S_cat S_len S_inj)
open SlX (SlO SlR putS slH)
/-- behind some led deeds -/
structure Led (N : Nm) (H : Hp) (b cl g L U : Addr) (own : List Addr) (G : GS) (n r c : Nat) (H' : Hp) (own' : List Addr) (lg gn : List Deed) : Prop where
  ga : GameAt N H' g own' { G with log := lg, gone := gn }
  gr : Grow H own own'
  kp : Kp N (b :: L :: U :: own) H H'
  ok : GsOk n r { G with log := lg, gone := gn }
  la : LogAt H' L lg
  ua : LogAt H' U gn
  bag : BagAt H' b cl
  sz : lg.length + gn.length ≤ c
theorem bag_ne_log {H : Hp} {b cl L : Addr} {ds : List Deed} (h : BagAt H b cl) (l : LogAt H L ds) : L ≠ b := by
  obtain ⟨x0, x1, x2, cs, eb, _⟩ := h
  obtain ⟨vs, e, M, rfl, _⟩ := l
  refine ne_of e eb fun z => ?_
  have z' := HO.lst.inj z
  cases M with
  | nil => cases z'
  | cons p M => cases z'
theorem Led.grow {N : Nm} {H H' : Hp} {b cl g L U : Addr} {own own' own5 : List Addr} {G : GS} {n r c : Nat} {lg gn : List Deed} (h : Led N H b cl g L U own G n r c H' own' lg gn) (k : Grow H' own' own5) : Grow H own own5 := fun x hx => by
  rcases k x hx with z | z
  · exact h.gr x z
  · rcases h.kp.fresh z with y | y
    · exact .inr y
    · obtain ⟨⟨_, eb⟩, _⟩ := h.bag.dom
      obtain ⟨_, eL, _⟩ := h.la
      obtain ⟨_, eU, _⟩ := h.ua
      simp only [List.mem_cons] at y
      rcases y with rfl | rfl | rfl | y
      · rw [eb] at z; cases z
      · rw [eL] at z; cases z
      · rw [eU] at z; cases z
      · exact .inl y
section
variable {K : PySem.W.Frag} {w : World} {mg : Str → Option Value} {N : Nm} {base : Heap}
theorem Led.upto {H H' : Hp} {b cl g L U : Addr} {own own' : List Addr} {G : GS} {n r c c' : Nat} {lg gn : List Deed} (h : Led N H b cl g L U own G n r c H' own' lg gn) (hc : c ≤ c') : Led N H b cl g L U own G n r c' H' own' lg gn :=
  ⟨h.ga, h.gr, h.kp, h.ok, h.la, h.ua, h.bag, Nat.le_trans h.sz hc⟩
theorem Led.same {H H' H'' : Hp} {b cl g L U : Addr} {own own' : List Addr} {G : GS} {n r c : Nat} {lg gn : List Deed} (h : Led N H b cl g L U own G n r c H' own' lg gn) (k : Kp N [] H' H'') : Led N H b cl g L U own G n r c H'' own' lg gn :=
  ⟨h.ga.keep k (by simp), h.gr, h.kp.then k.up, h.ok, h.la.keep k (by simp), h.ua.keep k (by simp), h.bag.keep k (by simp) (by simp), h.sz⟩
theorem Led.take {H H' H'' : Hp} {b cl g L U : Addr} {own own' : List Addr} {G : GS} {n r c : Nat} {lg gn : List Deed} (h : Led N H b cl g L U own G n r c H' own' lg gn) (hb : b ∉ own') (k : Kp N [b] H' H'') (bg : BagAt H'' b cl) : Led N H b cl g L U own G n r c H'' own' lg gn :=
  ⟨h.ga.keep k (fun x hx => by simp only [List.mem_cons, List.not_mem_nil, or_false]; exact fun z => hb (z ▸ hx)), h.gr, h.kp.then (k.mono fun x hx => .inl (by simp at hx; simp [hx])), h.ok,
    h.la.keep k (by simp [bag_ne_log h.bag h.la]), h.ua.keep k (by simp [bag_ne_log h.bag h.ua]), bg, h.sz⟩
def sp_l_led (K : PySem.W.Frag) (N : Nm) : Sp := fun vs H Q E => ∃ (b cl g p L U : Addr) (own : List Addr) (G : GS) (n r many : Nat), vs = [.ref b, .ref g, .ref p, .str (S G.t), .ref L, .ref U, .int many] ∧ BagAt H b cl ∧ GameAt N H g own G ∧ GsOk n r G ∧ H p = some (.tup [.str (S G.tab), .int G.r]) ∧ LogAt H L G.log ∧ LogAt H U G.gone ∧ L ≠ U ∧
  (∀ x ∈ [b, cl, L, U], x ∉ own) ∧ cl ≠ L ∧ cl ≠ U ∧ many ≤ 100 ∧ G.log.length + G.gone.length + many ≤ 150 ∧ ∀ H' own' lg gn, Led N H b cl g L U own G n r (G.log.length + G.gone.length + many) H' own' lg gn → Q (.bl true) H'
def t_l_led (K : PySem.W.Frag) (N : Nm) : TS :=
 (tSeq (tFor (iRng1 (tCons (tVar 6) tNil)) (gName 7)
 ((tSeq (tAsg (tCl (sp_l_take K N) E0 (tCons (tVar 0) (tCons (tC (.int 8)) tNil))) (gName 8))
 (tIfS (tTest (tOp rGtI (tVar 8) (tC (.int 1))))
 (tSeq (tAsg (tCl (sp_l_moment K N) E0 (tCons (tVar 2) (tCons (tVar 3) (tCons (tVar 4) tNil)))) (gName 9))
 (tSeq (tAsg (tCl (sp_l_deed K N) E0 (tCons (tVar 0) (tCons (tVar 9) tNil))) (gName 10))
 (tSeq (tAsg (tCl (sp_l_can_do K N) E0 (tCons (tVar 9) (tCons (tVar 10) tNil))) (gName 11))
 (tSeq (tIfS (tNot (tB (tCl (sp_l_alike K N) E0 (tCons (tCl (sp_l_did K N) E0 (tCons (tVar 1) (tCons (tVar 10) tNil))) (tCons (tIf (tB (tVar 11)) (tTup (tCons (tC (.str (S [116, 111, 108, 100]))) (tCons (tC .non) tNil))) (tTup (tCons (tC (.str (S [114, 101, 102, 117, 115, 101, 100]))) (tCons (tVar 10) tNil)))) tNil)))))
 tNever tNext)
 (tIfS (tB (tVar 11))
 (tSeq (tDrop (tBM K "list" rAppend (tVar 4) (tCons (tVar 10) tNil)))
 (tDrop (tBM0 K "list" rClear (tVar 5)))) tNext))))) (tIfS (tNot (tB (tCl (sp_l_turned_back K N) E0 (tCons (tVar 1) (tCons (tStepL K (tLst (tCons (tVar 4) (tCons (tVar 5) tNil))) (tOp rSubI (tC (.int 1)) (tOp rMulI (tC (.int 2)) (tVar 8)))) (tCons (tVar 8) tNil))))))
 tNever tNext)))))
 (tRet (tC (.bl true))))
theorem pure_l_led (T : Txt K w mg N) (vs : List V) (H : Hp) (Q : VK) (E : XK) (h : sp_l_led K N vs H Q E) : t_l_led K N (Eo Q) (start nm_l_led vs) H := by
  obtain ⟨b, cl, g, p, L, U, own, G, n, r, many, rfl, bag, ga, ok, ep, la, ua, hLU, hx, clL, clU, hm, hsz, q⟩ := h
  have hr := ok.rr
  subst hr
  obtain ⟨⟨ob, eb⟩, ⟨oc, ec⟩⟩ := bag.dom
  have eL : ∃ o, H L = some o := by obtain ⟨_, e, _⟩ := la; exact ⟨_, e⟩
  have eU : ∃ o, H U = some o := by obtain ⟨_, e, _⟩ := ua; exact ⟨_, e⟩
  obtain ⟨oL, eL⟩ := eL
  obtain ⟨oU, eU⟩ := eU
  have L0 : Led N H b cl g L U own G n G.r (G.log.length + G.gone.length) H own G.log G.gone := ⟨ga, Grow.refl, Kp.refl, ok, la, ua, bag, Nat.le_refl _⟩
  refine ⟨_, rfl, many, rfl, by omega, by omega, ?_⟩
  have em : ((many : Nat) : Int).toNat = many := by omega
  rw [em]
  refine for_range (fun i σ H' => ∃ v7 v8 v9 v10 v11 own' lg gn, σ = [some (.ref b), some (.ref g), some (.ref p), some (.str (S G.t)), some (.ref L), some (.ref U), some (.int many), v7, v8, v9, v10, v11] ∧ Led N H b cl g L U own G n G.r (G.log.length + G.gone.length + i) H' own' lg gn) ⟨none, none, none, none, none, own, G.log, G.gone, rfl, L0⟩ ?_ ?_
  · rintro i σ H1 hi ⟨v7, v8, v9, v10, v11, own1, lg, gn, rfl, D1⟩
    have hb1 : b ∉ own1 := not_grown (hx b (by simp)) D1.gr eb
    have hc1 : cl ∉ own1 := not_grown (hx cl (by simp)) D1.gr ec
    have hL1 : L ∉ own1 := not_grown (hx L (by simp)) D1.gr eL
    have hU1 : U ∉ own1 := not_grown (hx U (by simp)) D1.gr eU
    refine ⟨_, rfl, b, cl, 8, rfl, D1.bag, by decide, by decide, fun way H2 hw bag2 k2 => ?_⟩
    have D2 := D1.take hb1 k2 bag2
    have hsz2 := D2.sz
    have ep2 := D2.kp _ _ ep (.inr Prm.tup)
    refine ⟨_, rfl, _, _, rfl, rfl, _, rfl, ?_⟩
    by_cases c1 : (1 : Int) < way
    · refine if_t (decide_eq_true c1) ?_
      have ok0 : MomOk n G.r 0 (mom0 G.tab G.r G.t) := mom0_ok ok.tab ok.r2 ok.n0 ok.n1 ok.len ok.ok
      refine ⟨_, rfl, _, rfl, _, rfl, p, G.tab, n, G.r, G.t, L, lg, rfl, ep2, D2.la, ok0, D2.ok.log, by omega, fun qq sl H3 mv k3 nsl => ?_⟩
      have D3 := D2.same k3
      have okm : MomOk n G.r lg.length (replay (mom0 G.tab G.r G.t) lg) := D3.ok.mom
      have slb : sl ≠ b := by
        obtain ⟨_, _, _, e⟩ := mv
        exact D3.bag.ne_ints e
      refine ⟨_, rfl, _, rfl, b, cl, qq, sl, _, n, G.r, _, rfl, D3.bag, mv, okm, by omega, fun D d H4 wfD ed bag4 k4 => ?_⟩
      have D4 := D3.take hb1 k4 bag4
      have mv4 : MomV H4 qq sl _ := mv.keep k4 (by simp [slb])
      refine ⟨_, rfl, _, rfl, qq, sl, d, _, D, n, G.r, _, rfl, mv4, ed, okm, wfD, ?_⟩
      have hlg : lg.length < 190 := by omega
      refine ⟨_, rfl, _, rfl, g, d, own1, _, D, n, G.r, rfl, D4.ga, ed, D4.ok, hlg, wfD, fun hc H5 own5 p5 ga5 k5 gr5 ep5 => ?_, fun hc H5 p5 k5 ep5 => ?_⟩
      · have hc' : canDo (replay (mom0 G.tab G.r G.t) lg) D = true := hc
        refine ⟨_, rfl, _, rfl, if_t hc' ⟨by show 2 ≤ sizeLine; decide, fun p6 hp6 => ?_⟩⟩
        have k6 : Kp N [] H5 (upd H5 p6 (.tup [.str (S told), .non])) := Kp.refl.new hp6
        have nn : Nice 20 1 (.tuple [.str (S told), .none]) := (NiceAll.cons (Nice.str (n := 7) (by decide) (by decide)) (.cons Nice.non .nil)).tup.mono (by decide) (by decide)
        refine ⟨p5, p6, .tuple [.str (S told), .none], 20, 1, rfl, .tup (.of (k6 _ _ ep5 (.inl (by simp)))) (.cons (.str _) (.cons .non .nil)), .tup (.of upd_same) (.cons (.str _) (.cons .non .nil)), nn, by decide, by decide, _, rfl, if_f rfl ⟨_, rfl, _, rfl, if_t hc' ?_⟩⟩
        have k46 : Kp N own1 H4 (upd H5 p6 (.tup [.str (S told), .non])) := k5.then k6.up
        have ga6 := ga5.keep k6 (by simp)
        have bag6 : BagAt (upd H5 p6 (.tup [.str (S told), .non])) b cl := D4.bag.keep k46 hb1 hc1
        obtain ⟨lv, el6, ld6⟩ := D4.la.keep k46 hL1
        obtain ⟨uv, eu6, ud6⟩ := D4.ua.keep k46 hU1
        have ed6 := k46 _ _ ed (.inr Prm.tup)
        generalize upd H5 p6 (.tup [.str (S told), .non]) = H6 at *
        refine ⟨_, rfl, .inl ⟨rfl, _, .of el6⟩, _, rfl, L, lv, _, rfl, rfl, el6, size_ok (by rw [ld6.length]; omega), ?_⟩
        have k7 : Kp N [L, U] H6 (upd H6 L (.lst (lv ++ [.ref d]))) := Kp.refl.lst el6 (.inl (by simp))
        have el7 : (upd H6 L (.lst (lv ++ [.ref d]))) L = some (.lst (lv ++ [.ref d])) := upd_same
        have eu7 : (upd H6 L (.lst (lv ++ [.ref d]))) U = some (.lst uv) := (upd_ne (Ne.symm hLU)).trans eu6
        generalize upd H6 L (.lst (lv ++ [.ref d])) = H7 at *
        refine ⟨_, rfl, .inl ⟨rfl, _, .of eu7⟩, U, uv, rfl, rfl, eu7, ?_⟩
        have k8 : Kp N [L, U] H6 (upd H7 U (.lst [])) := k7.lst eu7 (.inl (by simp))
        have hL5 : L ∉ own5 := by
          obtain ⟨_, e, _⟩ := D4.la
          exact not_grown hL1 gr5 e
        have hU5 : U ∉ own5 := by
          obtain ⟨_, e, _⟩ := D4.ua
          exact not_grown hU1 gr5 e
        refine ⟨some (.int (0 + i)), some (.int way), some (.ref qq), some (.ref d), some (.bl (canDo (replay (mom0 G.tab G.r G.t) lg) D)), own5, lg ++ [D], [], rfl, ?_⟩
        refine ⟨ga6.keep k8 fun x hx' => ?_, D4.grow gr5, ?_, D4.ok.did wfD hlg, ⟨_, (upd_ne hLU).trans el7, (ld6.keep k8).snoc (k8 _ _ ed6 (.inr Prm.tup))⟩, ⟨[], upd_same, .nil⟩, bag6.keep k8 (by simp [Ne.symm (bag_ne_log D4.bag D4.la), Ne.symm (bag_ne_log D4.bag D4.ua)]) (by simp [clL, clU]), by simp; omega⟩
        · simp only [List.mem_cons, List.not_mem_nil, or_false]
          rintro (rfl | rfl)
          · exact hL5 hx'
          · exact hU5 hx'
        · refine (D4.kp.trans k46 (m := b :: L :: U :: own) (fun _ h => .inl h) fun x hx' => ?_).then (k8.mono fun x hx => .inl (by simp at hx; rcases hx with rfl | rfl <;> simp))
          rcases D4.gr x hx' with z | z
          · exact .inl (by simp [z])
          · exact .inr z
      · have hc' : canDo (replay (mom0 G.tab G.r G.t) lg) D = false := hc
        have ed5 := k5 _ _ ed (.inl (by simp))
        refine ⟨_, rfl, _, rfl, if_f hc' ⟨_, rfl, by show 2 ≤ sizeLine; decide, fun p6 hp6 => ?_⟩⟩
        have k6 : Kp N [] H5 (upd H5 p6 (.tup [.str (S refused), .ref d])) := Kp.refl.new hp6
        have nn : Nice 40 2 (.tuple [.str (S refused), deedD D]) := (NiceAll.cons ((Nice.str (n := 7) (by decide) (by decide)).mono (Nat.le_refl _) (by decide)) (.cons (nice_deed ok.n1 ok.r2 wfD) .nil)).tup.mono (by decide) (by decide)
        refine ⟨p5, p6, .tuple [.str (S refused), deedD D], 40, 2, rfl, .tup (.of (k6 _ _ ep5 (.inl (by simp)))) (.cons (.str _) (.cons (dp_deed (k6 _ _ ed5 (.inl (by simp)))) .nil)), .tup (.of upd_same) (.cons (.str _) (.cons (dp_deed (k6 _ _ ed5 (.inl (by simp)))) .nil)), nn, by decide, by decide, _, rfl, if_f rfl ⟨_, rfl, _, rfl, if_f hc' ?_⟩⟩
        exact ⟨some (.int (0 + i)), some (.int way), some (.ref qq), some (.ref d), some (.bl (canDo (replay (mom0 G.tab G.r G.t) lg) D)), own1, lg, gn, rfl, (D4.same (k5.then k6)).upto (by omega)⟩
    · refine if_f (decide_eq_false c1) ?_
      have hw2 : way = 0 ∨ way = 1 := by omega
      obtain ⟨dg, a0, L0', U0', m0, ownM, ho, sa2, _⟩ := id D2.ga
      refine ⟨_, rfl, _, rfl, _, rfl, by show 2 ≤ sizeLine; decide, fun LL hLL => ?_⟩
      have k3 : Kp N [] H2 (upd H2 LL (.lst [.ref L, .ref U])) := Kp.refl.new hLL
      have eLL : (upd H2 LL (.lst [.ref L, .ref U])) LL = some (.lst [.ref L, .ref U]) := upd_same
      have D3 := D2.same k3
      generalize upd H2 LL (.lst [.ref L, .ref U]) = H3 at *
      refine ⟨_, rfl, 2, _, rfl, rfl, .inl ⟨by decide, by decide⟩, _, _, rfl, rfl, _, rfl, LL, _, rfl, .of eLL, ?_, fun LR hLR => ?_⟩
      · rcases hw2 with rfl | rfl
        · exact .inl rfl
        · exact .inr rfl
      have k4 : Kp N [] H3 (upd H3 LR (.lst (if (1 : Int) - 2 * (way : Int) = 1 then [V.ref L, .ref U] else [V.ref L, .ref U].reverse))) := Kp.refl.new hLR
      have eLR : (upd H3 LR (.lst (if (1 : Int) - 2 * (way : Int) = 1 then [V.ref L, .ref U] else [V.ref L, .ref U].reverse))) LR = some (.lst (if (1 : Int) - 2 * (way : Int) = 1 then [V.ref L, .ref U] else [V.ref L, .ref U].reverse)) := upd_same
      have D4 := D3.same k4
      have LRo : LR ∉ own1 := fun z => by
        obtain ⟨o, e⟩ := D3.ga.dom LR z
        rw [hLR] at e; cases e
      have LRL : LR ≠ L := by
        obtain ⟨_, e, _⟩ := D3.la
        exact Ne.symm (ne_of_none e hLR)
      have LRU : LR ≠ U := by
        obtain ⟨_, e, _⟩ := D3.ua
        exact Ne.symm (ne_of_none e hLR)
      generalize upd H3 LR (.lst (if (1 : Int) - 2 * (way : Int) = 1 then [V.ref L, .ref U] else [V.ref L, .ref U].reverse)) = H4 at *
      have fin : ∀ H5 own5 lg5 gn5, GameAt N H5 g own5 { G with log := lg5, gone := gn5 } → Grow H4 own1 own5 → Kp N (L :: U :: own1) H4 H5 → GsOk n G.r { G with log := lg5, gone := gn5 } → LogAt H5 L lg5 → LogAt H5 U gn5 → lg5.length + gn5.length = lg.length + gn.length → Led N H b cl g L U own G n G.r (G.log.length + G.gone.length + (i + 1)) H5 own5 lg5 gn5 := by
        intro H5 own5 lg5 gn5 ga5 gr5 k5 ok5 la5 ua5 hs5
        refine ⟨ga5, D4.grow gr5, ?_, ok5, la5, ua5, D4.bag.keep k5 ?_ ?_, by omega⟩
        · refine D4.kp.trans k5 (fun _ h => .inl h) fun x hx' => ?_
          simp only [List.mem_cons] at hx' ⊢
          rcases hx' with rfl | rfl | z
          · exact .inl (.inr (.inl rfl))
          · exact .inl (.inr (.inr (.inl rfl)))
          · rcases D4.gr x z with y | y
            · exact .inl (.inr (.inr (.inr y)))
            · exact .inr y
        · simp only [List.mem_cons, not_or]
          exact ⟨Ne.symm (bag_ne_log D4.bag D4.la), Ne.symm (bag_ne_log D4.bag D4.ua), hb1⟩
        · simp only [List.mem_cons, not_or]
          exact ⟨clL, clU, hc1⟩
      rcases hw2 with rfl | rfl
      · refine ⟨_, rfl, g, LR, L, U, own1, _, n, G.r, 0, rfl, D4.ga, D4.ok, eLR, hLU, hL1, hU1, LRo, LRL, LRU, .inl ⟨rfl, D4.la, D4.ua⟩, fun H5 own5 G5 ga5 gr5 k5 e1 e2 e3 ok5 hs5 two5 => ?_⟩
        obtain ⟨tab5, r5, t5, lg5, gn5⟩ := G5
        cases e1; cases e2; cases e3
        obtain ⟨_, l1, l2⟩ | ⟨z, _⟩ := two5
        · exact ⟨_, rfl, if_f rfl ⟨some (.int (0 + i)), some (.int (0 : Nat)), v9, v10, v11, own5, lg5, gn5, rfl, fin H5 own5 lg5 gn5 ga5 gr5 k5 ok5 l1 l2 hs5⟩⟩
        · cases z
      · refine ⟨_, rfl, g, LR, U, L, own1, _, n, G.r, 1, rfl, D4.ga, D4.ok, eLR, Ne.symm hLU, hU1, hL1, LRo, LRU, LRL, .inr ⟨rfl, D4.ua, D4.la⟩, fun H5 own5 G5 ga5 gr5 k5 e1 e2 e3 ok5 hs5 two5 => ?_⟩
        obtain ⟨tab5, r5, t5, lg5, gn5⟩ := G5
        cases e1; cases e2; cases e3
        obtain ⟨z, _⟩ | ⟨_, l1, l2⟩ := two5
        · cases z
        · exact ⟨_, rfl, if_f rfl ⟨some (.int (0 + i)), some (.int (1 : Nat)), v9, v10, v11, own5, lg5, gn5, rfl, fin H5 own5 lg5 gn5 ga5 gr5 (k5.mono fun x hx => .inl (by simp only [List.mem_cons] at hx ⊢; rcases hx with z | z | z <;> simp [z])) ok5 l2 l1 hs5⟩⟩
  · rintro σ H1 ⟨v7, v8, v9, v10, v11, own1, lg, gn, rfl, D1⟩
    exact q H1 own1 lg gn D1
theorem ok_l_led (T : Txt K w mg N) : FnG Pw w K mg base CX0 18 N.l_led (sp_l_led K N) := by
  obtain ⟨fd, F, b⟩ := T.d_l_led
  exact mk_fnG F b sc_l_led (fun vs H Q E h => by (repeat (first | (obtain ⟨rfl, _⟩ := h; rfl) | (obtain ⟨_, h⟩ := h)))) fun cdv A outer s H vs Q E hr hG h => ⟨t_l_led K N, (PSs.nox (by exact (pss_cons (ps_for PassesOwn.never rfl (pi_range1 rfl T.n_range (pa_cons (pv 6) pa_nil)) (pg_name (i := 7) sc_l_led.nd rfl (Or.inl rfl))
 (pss_cons (ps_set (i := 8) sc_l_led.nd rfl (Or.inl rfl) (pe_cl (ok_l_take T) (hr.mono (by decide)) rfl T.g_l_take T.k_l_take pass0 (pa_cons (pv 0) (pa_cons pe_int pa_nil))))
 (pss_one (ps_if (pt_cmpR op_gt (pv 8) pe_int (nomark _)) (pss_cons (ps_set (i := 9) sc_l_led.nd rfl (Or.inl rfl) (pe_cl (ok_l_moment T) (hr.mono (by decide)) rfl T.g_l_moment T.k_l_moment pass0 (pa_cons (pv 2) (pa_cons (pv 3) (pa_cons (pv 4) pa_nil)))))
 (pss_cons (ps_set (i := 10) sc_l_led.nd rfl (Or.inl rfl) (pe_cl (ok_l_deed T) (hr.mono (by decide)) rfl T.g_l_deed T.k_l_deed pass0 (pa_cons (pv 0) (pa_cons (pv 9) pa_nil))))
 (pss_cons (ps_set (i := 11) sc_l_led.nd rfl (Or.inl rfl) (pe_cl (ok_l_can_do T) (hr.mono (by decide)) rfl T.g_l_can_do T.k_l_can_do pass0 (pa_cons (pv 9) (pa_cons (pv 10) pa_nil))))
 (pss_cons (ps_if (pt_not (pt_val (pe_clG (ok_l_alike T) (hr.mono (by decide)) hG rfl T.g_l_alike T.k_l_alike pass0 (pa_cons (pe_cl (ok_l_did T) (hr.mono (by decide)) rfl T.g_l_did T.k_l_did pass0 (pa_cons (pv 1) (pa_cons (pv 10) pa_nil))) (pa_cons (pe_ifExp (pt_val (pv 11)) (pe_tup (pa_cons (pe_lit (l := [116, 111, 108, 100]) (by decide +kernel)) (pa_cons pe_non pa_nil))) (pe_tup (pa_cons (pe_lit (l := [114, 101, 102, 117, 115, 101, 100]) (by decide +kernel)) (pa_cons (pv 10) pa_nil)))) pa_nil))))) pss_never pss_nil)
 (pss_one (ps_if (pt_val (pv 11)) (pss_cons (ps_expr (pe_bm PySem.F.plainAttrs_list PySem.F.slot_list_append PySem.F.type_list_append mt_append (pv 4) (pa_cons (pv 10) pa_nil)))
 (pss_one (ps_expr (pe_bm0 PySem.F.plainAttrs_list PySem.F.slot_list_clear PySem.F.type_list_clear mt_clear (pv 5))))) pss_nil)))))) (pss_one (ps_if (pt_not (pt_val (pe_clG (ok_l_turned_back T) (hr.mono (by decide)) hG rfl T.g_l_turned_back T.k_l_turned_back pass0 (pa_cons (pv 1) (pa_cons (pe_stepL (pe_lst (pa_cons (pv 4) (pa_cons (pv 5) pa_nil))) (pe_op op_sub pe_int (pe_op op_mul pe_int (pv 8)))) (pa_cons (pv 8) pa_nil)))))) pss_never pss_nil))))))
 (pss_one (ps_ret pe_bl))))), pure_l_led T vs H Q E h⟩
end
end Sw
namespace Sw
open PySem PySem.Spec PyProof.Rows L2
open SX (S S_cat S_len S_inj)
open SlX (SlO SlR putS slH)
/-! # several games that stand apart, and cells beside them -/
abbrev Cel := Addr × (Hp → Prop)
def Stab (N : Nm) (c : Cel) : Prop := ∀ m H H', Kp N m H H' → c.1 ∉ m → c.2 H → c.2 H'
abbrev Gx := Addr × GS × List Addr
/-- games gs and cells ks, all new since H0, behind a walk that wrote of what H0 had l alone -/
structure Gm (N : Nm) (H0 : Hp) (l : List Addr) (H : Hp) (xs : List Gx) (ks : List Cel) : Prop where
  kp : Kp N l H0 H
  l0 : ∀ x ∈ l, (∃ o, H0 x = some o) ∧ ∃ o, H x = some o
  at_ : ∀ x ∈ xs, GameAt N H x.1 x.2.2 x.2.1
  new : ∀ x ∈ xs, ∀ a ∈ x.2.2, H0 a = none
  sep : ∀ (i j : Nat) (x y : Gx), i ≠ j → xs[i]? = some x → xs[j]? = some y → ∀ a ∈ x.2.2, a ∉ y.2.2
  cel : ∀ c ∈ ks, c.2 H ∧ (∃ o, H c.1 = some o) ∧ H0 c.1 = none ∧ (∀ x ∈ xs, c.1 ∉ x.2.2) ∧ Stab N c
def Gms (N : Nm) (H0 : Hp) (l : List Addr) (H : Hp) (gs : List (Addr × GS)) (ks : List Cel) : Prop := ∃ xs, Gm N H0 l H xs ks ∧ xs.map (fun x => (x.1, x.2.1)) = gs
variable {K : PySem.W.Frag} {w : World} {mg : Str → Option Value} {N : Nm} {base : Heap}
theorem some_none {H : Hp} {a b : Addr} {o : HO} (h : H a = some o) (n : H b = none) : b ≠ a := fun z => by rw [z, h] at n; cases n
theorem stab_cell {p : Addr} {o : HO} : Stab N (p, fun H => H p = some o) := fun m H H' k h e => k _ _ e (.inl h)
theorem stab_log {p : Addr} {ds : List Deed} : Stab N (p, fun H => LogAt H p ds) := fun m H H' k h e => e.keep k h
theorem Gms.nil {H : Hp} {l : List Addr} (h : ∀ x ∈ l, ∃ o, H x = some o) : Gms N H l H [] [] := ⟨[], ⟨Kp.refl, fun x hx => ⟨h x hx, h x hx⟩, by simp, by simp, fun i j x y _ e => by simp at e, by simp⟩, rfl⟩
theorem Gms.kp {H0 H : Hp} {l : List Addr} {gs : List (Addr × GS)} {ks : List Cel} (M : Gms N H0 l H gs ks) : Kp N l H0 H := by
  obtain ⟨xs, M, rfl⟩ := M
  exact M.kp
theorem Gms.cel {H0 H : Hp} {l : List Addr} {gs : List (Addr × GS)} {ks : List Cel} (M : Gms N H0 l H gs ks) (c : Addr) (P : Hp → Prop) (h : (c, P) ∈ ks) : P H := by
  obtain ⟨xs, M, rfl⟩ := M
  exact (M.cel _ h).1
theorem Gms.cel0 {H0 H : Hp} {l : List Addr} {gs : List (Addr × GS)} {ks : List Cel} (M : Gms N H0 l H gs ks) (c : Cel) (h : c ∈ ks) : H0 c.1 = none ∧ ∃ o, H c.1 = some o := by
  obtain ⟨xs, M, rfl⟩ := M
  exact ⟨(M.cel _ h).2.2.1, (M.cel _ h).2.1⟩
/-- what a cell of ks may become -/
def Ups (N : Nm) (H' : Hp) (m : List Addr) (ks ks' : List Cel) : Prop := ∀ q ∈ ks', (q ∈ ks ∧ q.1 ∉ m) ∨ ((∃ p ∈ ks, p.1 = q.1) ∧ q.2 H' ∧ (∃ o, H' q.1 = some o) ∧ Stab N q)
/-- a walk that writes of m alone -/
theorem Gms.wr {H0 H H' : Hp} {l m : List Addr} {gs : List (Addr × GS)} {ks ks' : List Cel} (M : Gms N H0 l H gs ks) (k : Kp N m H H') (hm : ∀ x ∈ m, x ∈ l ∨ ∃ p ∈ ks, p.1 = x) (hl : ∀ x ∈ l, ∃ o, H' x = some o) (up : Ups N H' m ks ks') : Gms N H0 l H' gs ks' := by
  obtain ⟨xs, M, rfl⟩ := M
  have hx : ∀ x ∈ xs, ∀ b ∈ x.2.2, b ∉ m := fun x hx b hb hbm => by
    rcases hm b hbm with z | ⟨p, hp, rfl⟩
    · obtain ⟨⟨o, e⟩, _⟩ := M.l0 b z
      rw [M.new x hx b hb] at e; cases e
    · exact (M.cel p hp).2.2.2.1 x hx hb
  refine ⟨xs, ⟨M.kp.trans k (fun _ h => .inl h) fun x h => ?_, fun x h => ⟨(M.l0 x h).1, hl x h⟩, fun x h => (M.at_ x h).keep k (hx x h), M.new, M.sep, fun q hq => ?_⟩, rfl⟩
  · rcases hm x h with z | ⟨p, hp, rfl⟩
    · exact .inl z
    · exact .inr (M.cel p hp).2.2.1
  · rcases up q hq with ⟨hq, hn⟩ | ⟨⟨p, hp, e⟩, h1, h2, h3⟩
    · obtain ⟨c1, ⟨o, c2⟩, c3, c4, c5⟩ := M.cel q hq
      exact ⟨c5 m H H' k hn c1, ⟨o, k _ _ c2 (.inl hn)⟩, c3, c4, c5⟩
    · obtain ⟨c1, c2, c3, c4, c5⟩ := M.cel p hp
      exact ⟨h1, h2, e ▸ c3, fun x hx => e ▸ c4 x hx, h3⟩
theorem Ups.same {H' : Hp} {ks : List Cel} : Ups N H' [] ks ks := fun q hq => .inl ⟨hq, by simp⟩
theorem Gms.same {H0 H H' : Hp} {l : List Addr} {gs : List (Addr × GS)} {ks : List Cel} (M : Gms N H0 l H gs ks) (k : Kp N [] H H') : Gms N H0 l H' gs ks := by
  refine M.wr k (by simp) (fun x hx => ?_) Ups.same
  obtain ⟨xs, M, rfl⟩ := M
  obtain ⟨o, e⟩ := (M.l0 x hx).2
  exact ⟨o, k _ _ e (.inl (by simp))⟩
/-- a new cell -/
theorem Gms.reg {H0 H H' : Hp} {l : List Addr} {gs : List (Addr × GS)} {ks : List Cel} (M : Gms N H0 l H gs ks) (k : Kp N [] H H') (c : Cel) (hn : H c.1 = none) (hp : c.2 H') (hd : ∃ o, H' c.1 = some o) (st : Stab N c) : Gms N H0 l H' gs (c :: ks) := by
  have hd0 : H0 c.1 = none := by
    obtain ⟨xs, M, rfl⟩ := M
    rcases M.kp.fresh hn with z | z
    · exact z
    · obtain ⟨_, o, e⟩ := M.l0 _ z
      rw [hn] at e; cases e
  have hN : ∀ xs, Gm N H0 l H xs ks → ∀ x ∈ xs, c.1 ∉ x.2.2 := fun xs M x hx z => by
    obtain ⟨o, e⟩ := (M.at_ x hx).dom _ z
    rw [hn] at e; cases e
  obtain ⟨xs, M, rfl⟩ := M
  refine ⟨xs, ⟨M.kp.then k.up, fun x h => ⟨(M.l0 x h).1, ?_⟩, fun x h => (M.at_ x h).keep k (by simp), M.new, M.sep, fun q hq => ?_⟩, rfl⟩
  · obtain ⟨o, e⟩ := (M.l0 x h).2
    exact ⟨o, k _ _ e (.inl (by simp))⟩
  · rcases List.mem_cons.mp hq with rfl | hq
    · exact ⟨hp, hd, hd0, hN xs M, st⟩
    · obtain ⟨c1, ⟨o, c2⟩, c3, c4, c5⟩ := M.cel q hq
      exact ⟨c5 [] H H' k (by simp) c1, ⟨o, k _ _ c2 (.inl (by simp))⟩, c3, c4, c5⟩
theorem Gms.cell {H0 H : Hp} {l : List Addr} {gs : List (Addr × GS)} {ks : List Cel} (M : Gms N H0 l H gs ks) {p : Addr} {o : HO} (hn : H p = none) : Gms N H0 l (upd H p o) gs ((p, fun H => H p = some o) :: ks) :=
  M.reg (Kp.refl.new hn) _ hn upd_same ⟨_, upd_same⟩ stab_cell
/-- fewer cells -/
theorem Gms.sub {H0 H : Hp} {l : List Addr} {gs : List (Addr × GS)} {ks ks' : List Cel} (M : Gms N H0 l H gs ks) (h : ∀ c ∈ ks', c ∈ ks) : Gms N H0 l H gs ks' := by
  obtain ⟨xs, M, rfl⟩ := M
  exact ⟨xs, ⟨M.kp, M.l0, M.at_, M.new, M.sep, fun q hq => M.cel q (h q hq)⟩, rfl⟩
/-- without the first game -/
theorem Gms.tail {H0 H : Hp} {l : List Addr} {x : Addr × GS} {gs : List (Addr × GS)} {ks : List Cel} (M : Gms N H0 l H (x :: gs) ks) : Gms N H0 l H gs ks := by
  obtain ⟨xs, M, e⟩ := M
  cases xs with
  | nil => cases e
  | cons y xs =>
    cases e
    exact ⟨xs, ⟨M.kp, M.l0, fun x hx => M.at_ x (List.mem_cons_of_mem _ hx), fun x hx => M.new x (List.mem_cons_of_mem _ hx), fun i j x y n e1 e2 => M.sep (i + 1) (j + 1) x y (by omega) e1 e2,
      fun q hq => by
        obtain ⟨c1, c2, c3, c4, c5⟩ := M.cel q hq
        exact ⟨c1, c2, c3, fun x hx => c4 x (List.mem_cons_of_mem _ hx), c5⟩⟩, rfl⟩
/-- one game more -/
theorem Gms.push {H0 H H' : Hp} {l : List Addr} {gs : List (Addr × GS)} {ks : List Cel} (M : Gms N H0 l H gs ks) {f : Addr} {own : List Addr} {G : GS} (ga : GameAt N H' f own G) (k : Kp N [] H H') (fr : ∀ b ∈ own, H b = none) : Gms N H0 l H' (gs ++ [(f, G)]) ks := by
  obtain ⟨xs, M, rfl⟩ := M
  have z0 : ∀ a, H a = none → H0 a = none := fun a ha => by
    rcases M.kp.fresh ha with z | z
    · exact z
    · obtain ⟨_, o, e⟩ := M.l0 _ z
      rw [ha] at e; cases e
  have zz : ∀ x ∈ xs, ∀ a ∈ x.2.2, a ∉ own := fun x hx a ha hn => by
    obtain ⟨o, e⟩ := (M.at_ x hx).dom a ha
    rw [fr a hn] at e; cases e
  refine ⟨xs ++ [(f, G, own)], ⟨M.kp.then k.up, fun x h => ⟨(M.l0 x h).1, ?_⟩, fun x h => ?_, fun x h => ?_, fun i j x y n e1 e2 => ?_, fun q hq => ?_⟩, by simp⟩
  · obtain ⟨o, e⟩ := (M.l0 x h).2
    exact ⟨o, k _ _ e (.inl (by simp))⟩
  · rcases List.mem_append.mp h with h | h
    · exact (M.at_ x h).keep k (by simp)
    · cases List.mem_singleton.mp h
      exact ga
  · rcases List.mem_append.mp h with h | h
    · exact M.new x h
    · cases List.mem_singleton.mp h
      exact fun a ha => z0 a (fr a ha)
  · have hi : i < xs.length ∨ i = xs.length := by
      have := List.getElem?_eq_some_iff.mp e1
      obtain ⟨z, _⟩ := this
      simp at z; omega
    have hj : j < xs.length ∨ j = xs.length := by
      have := List.getElem?_eq_some_iff.mp e2
      obtain ⟨z, _⟩ := this
      simp at z; omega
    rcases hi with hi | rfl <;> rcases hj with hj | rfl
    · rw [List.getElem?_append_left hi] at e1
      rw [List.getElem?_append_left hj] at e2
      exact M.sep i j x y n e1 e2
    · rw [List.getElem?_append_left hi] at e1
      rw [List.getElem?_append_right (Nat.le_refl _)] at e2
      simp at e2
      subst e2
      exact zz x (List.mem_of_getElem? e1)
    · rw [List.getElem?_append_left hj] at e2
      rw [List.getElem?_append_right (Nat.le_refl _)] at e1
      simp at e1
      subst e1
      exact fun a ha hb => zz y (List.mem_of_getElem? e2) a hb ha
    · exact absurd rfl n
  · obtain ⟨c1, ⟨o, c2⟩, c3, c4, c5⟩ := M.cel q hq
    refine ⟨c5 [] H H' k (by simp) c1, ⟨o, k _ _ c2 (.inl (by simp))⟩, c3, fun x hx => ?_, c5⟩
    rcases List.mem_append.mp hx with hx | hx
    · exact c4 x hx
    · cases List.mem_singleton.mp hx
      exact fun z => by rw [fr _ z] at c2; cases c2
/-- one game goes on -/
theorem Gms.step {H0 H : Hp} {l : List Addr} {gs : List (Addr × GS)} {ks : List Cel} (M : Gms N H0 l H gs ks) {i : Nat} {g : Addr} {G : GS} (hi : gs[i]? = some (g, G)) :
    ∃ own, GameAt N H g own G ∧ (∀ x ∈ l, x ∉ own) ∧ (∀ p ∈ ks, p.1 ∉ own) ∧ (∀ x ∈ own, H0 x = none) ∧ ∀ (m : List Addr) H' own' G' ks', GameAt N H' g own' G' → Kp N (m ++ own) H H' → Grow H own own' → (∀ x ∈ m, x ∈ l ∨ ∃ p ∈ ks, p.1 = x) → (∀ x ∈ l, ∃ o, H' x = some o) → Ups N H' m ks ks' →
      Gms N H0 l H' (gs.set i (g, G')) ks' := by
  obtain ⟨xs, M, rfl⟩ := M
  rw [List.getElem?_map] at hi
  cases e : xs[i]? with
  | none => rw [e] at hi; cases hi
  | some x =>
    rw [e] at hi
    cases hi
    have hx := List.mem_of_getElem? e
    have hil : i < xs.length := (List.getElem?_eq_some_iff.mp e).1
    have nl : ∀ b ∈ l, b ∉ x.2.2 := fun b hb z => by
      obtain ⟨⟨o, e⟩, _⟩ := M.l0 b hb
      rw [M.new x hx b z] at e; cases e
    refine ⟨x.2.2, M.at_ x hx, nl, fun p hp => (M.cel p hp).2.2.2.1 x hx, M.new x hx, fun m H' own' G' ks' ga k gr hm hl up => ?_⟩
    have z0 : ∀ a, H a = none → H0 a = none := fun a ha => by
      rcases M.kp.fresh ha with z | z
      · exact z
      · obtain ⟨_, o, e⟩ := M.l0 _ z
        rw [ha] at e; cases e
    have new' : ∀ a ∈ own', H0 a = none := fun a ha => by
      rcases gr a ha with z | z
      · exact M.new x hx a z
      · exact z0 a z
    have far : ∀ j y, j ≠ i → xs[j]? = some y → ∀ b ∈ y.2.2, b ∉ m ++ x.2.2 := fun j y hj ey b hb z => by
      rcases List.mem_append.mp z with z | z
      · rcases hm b z with q | ⟨p, hp, rfl⟩
        · obtain ⟨⟨o, e⟩, _⟩ := M.l0 b q
          rw [M.new y (List.mem_of_getElem? ey) b hb] at e; cases e
        · exact (M.cel p hp).2.2.2.1 y (List.mem_of_getElem? ey) hb
      · exact M.sep j i y x hj ey e b hb z
    have far' : ∀ j y, j ≠ i → xs[j]? = some y → ∀ b ∈ y.2.2, b ∉ own' := fun j y hj ey b hb z => by
      rcases gr b z with q | q
      · exact M.sep j i y x hj ey e b hb q
      · obtain ⟨o, e⟩ := (M.at_ y (List.mem_of_getElem? ey)).dom b hb
        rw [q] at e; cases e
    have cases' : ∀ y ∈ xs.set i (x.1, G', own'), y = (x.1, G', own') ∨ ∃ j, j ≠ i ∧ xs[j]? = some y := fun y hy => by
      obtain ⟨j, ej⟩ := List.mem_iff_getElem?.mp hy
      rw [List.getElem?_set] at ej
      split at ej
      · cases ej; exact .inl rfl
      · exact .inr ⟨j, by omega, ej⟩
    refine ⟨xs.set i (x.1, G', own'), ⟨M.kp.trans k (fun _ h => .inl h) fun b hb => ?_, fun b h => ⟨(M.l0 b h).1, hl b h⟩, fun y hy => ?_, fun y hy => ?_, fun j1 j2 y1 y2 n e1 e2 => ?_, fun q hq => ?_⟩, by rw [List.map_set]⟩
    · rcases List.mem_append.mp hb with z | z
      · rcases hm b z with q | ⟨p, hp, rfl⟩
        · exact .inl q
        · exact .inr (M.cel p hp).2.2.1
      · exact .inr (M.new x hx b z)
    · rcases cases' y hy with rfl | ⟨j, hj, ej⟩
      · exact ga
      · exact (M.at_ y (List.mem_of_getElem? ej)).keep k (far j y hj ej)
    · rcases cases' y hy with rfl | ⟨j, hj, ej⟩
      · exact new'
      · exact M.new y (List.mem_of_getElem? ej)
    · rw [List.getElem?_set] at e1 e2
      split at e1
      · rename_i c1
        cases e1
        rw [if_neg (by omega)] at e2
        exact fun a ha hb => far' j2 y2 (by omega) e2 a hb ha
      · split at e2
        · cases e2
          exact far' j1 y1 (by omega) e1
        · exact M.sep j1 j2 y1 y2 n e1 e2
    · rcases up q hq with ⟨hq, hn⟩ | ⟨⟨p, hp, e9⟩, h1, h2, h3⟩
      · obtain ⟨c1, ⟨o, c2⟩, c3, c4, c5⟩ := M.cel q hq
        have hno : q.1 ∉ m ++ x.2.2 := fun z => by
          rcases List.mem_append.mp z with z | z
          · exact hn z
          · exact c4 x hx z
        refine ⟨c5 _ H H' k hno c1, ⟨o, k _ _ c2 (.inl hno)⟩, c3, fun y hy => ?_, c5⟩
        rcases cases' y hy with rfl | ⟨j, hj, ej⟩
        · exact not_grown (c4 x hx) gr c2
        · exact c4 y (List.mem_of_getElem? ej)
      · obtain ⟨c1, ⟨o, c2⟩, c3, c4, c5⟩ := M.cel p hp
        refine ⟨h1, h2, e9 ▸ c3, fun y hy => ?_, h3⟩
        rw [← e9]
        rcases cases' y hy with rfl | ⟨j, hj, ej⟩
        · exact not_grown (c4 x hx) gr c2
        · exact c4 y (List.mem_of_getElem? ej)
/-- without a write beside the game -/
theorem Gms.step0 {H0 H : Hp} {l : List Addr} {gs : List (Addr × GS)} {ks : List Cel} (M : Gms N H0 l H gs ks) {i : Nat} {g : Addr} {G : GS} (hi : gs[i]? = some (g, G)) :
    ∃ own, GameAt N H g own G ∧ (∀ x ∈ own, H0 x = none) ∧ ∀ H' own' G', GameAt N H' g own' G' → Kp N own H H' → Grow H own own' → Gms N H0 l H' (gs.set i (g, G')) ks := by
  have hd : ∀ x ∈ l, ∃ o, H x = some o := by
    obtain ⟨xs, M, rfl⟩ := M
    exact fun x hx => (M.l0 x hx).2
  obtain ⟨own, ga, nl, _, nw, f⟩ := M.step hi
  exact ⟨own, ga, nw, fun H' own' G' ga' k gr => f [] H' own' G' ks ga' k gr (by simp) (fun x hx => by
    obtain ⟨o, e⟩ := hd x hx
    exact ⟨o, k _ _ e (.inl (nl x hx))⟩) Ups.same⟩
theorem GameAt.slt {H : Hp} {g : Addr} {own : List Addr} {G : GS} (h : GameAt N H g own G) : ∃ dx vs, SlX.Slt H g N.Game dx vs := by
  obtain ⟨dg, r, L, U, m, ownM, rfl, sa, _⟩ := h
  exact ⟨_, _, sa.slt⟩
/-! ## what is done -/
/-- Game(rule, text) -/
theorem mk_game {H0 H : Hp} {l : List Addr} {gs : List (Addr × GS)} {ks : List Cel} (M : Gms N H0 l H gs ks) {a : Addr} {tab : List Nat} {r : Nat} {t : List Nat} (ra : RuleAt N H a tab r) (hr : r ≤ 2) (hne : t ≠ []) (hl : t.length ≤ 100) (okt : OkT r t) {x dx : Addr} (hx : H x = none) (hdx : H dx = none) (hne' : dx ≠ x) {Q : VK} {E : XK}
    (q : ∀ H', Gms N H0 l H' (gs ++ [(x, ⟨tab, r, t, [], []⟩)]) ks → Kp N [] H H' → Q .non H') : sp_Game_init K N [.ref x, .ref a, .str (S t)] (upd (upd H dx (.own x)) x (.ins N.Game dx [])) Q E := by
  have k1 : Kp N [] H (upd (upd H dx (.own x)) x (.ins N.Game dx [])) := (Kp.refl.new hdx).put hx
  refine ⟨x, dx, a, tab, r, t, rfl, newA_made hne', ra.keep k1, hr, hne, hl, okt, fun H' own ga k fr => ?_⟩
  have kk : Kp N [] H H' := k1.trans k (fun _ h => .inl h) fun b hb => by
    simp only [List.mem_cons, List.not_mem_nil, or_false] at hb
    rcases hb with rfl | rfl
    · exact .inr hx
    · exact .inr hdx
  refine q H' (M.push ga kk fun b hb => ?_) kk
  rcases fr b hb with rfl | rfl | z
  · exact hx
  · exact hdx
  · exact (k1.fresh z).resolve_right (by simp)
/-- game.do(deed), the deed new -/
theorem do_deed {H0 H : Hp} {l : List Addr} {gs : List (Addr × GS)} {ks : List Cel} (M : Gms N H0 l H gs ks) {i n r : Nat} {g : Addr} {G : GS} {D : Deed} (hi : gs[i]? = some (g, G)) (ok : GsOk n r G) (hlen : G.log.length < 190) (wf : Wf n r D) (can : canDo G.mom D = true) {p : Addr} {σ : L2.St} (hp : H p = none) {Q : VK} {E : XK}
    (q : ∀ H', Gms N H0 l H' (gs.set i (g, { G with log := G.log ++ [D], gone := [] })) ks → Q .non H') : tNil σ (upd H p (.tup (dV D))) fun xs H2 => sp_Game_do K N (V.ref g :: V.ref p :: xs) H2 Q E := by
  have M1 := M.same (Kp.refl.new hp (o := .tup (dV D)))
  obtain ⟨own, ga, _, f⟩ := M1.step0 hi
  refine ⟨g, p, own, G, D, n, r, rfl, ga, upd_same, ok, hlen, wf, fun _ H' own' ga' k gr => q H' (f H' own' _ ga' k gr), fun c => ?_⟩
  rw [can] at c; cases c
theorem Gms.slt {H0 H : Hp} {l : List Addr} {gs : List (Addr × GS)} {ks : List Cel} (M : Gms N H0 l H gs ks) {i : Nat} {g : Addr} {G : GS} (hi : gs[i]? = some (g, G)) : ∃ dx vs, SlX.Slt H g N.Game dx vs := by
  obtain ⟨own, ga, _, f⟩ := M.step0 hi
  exact ga.slt
theorem Gms.game {H0 H : Hp} {l : List Addr} {gs : List (Addr × GS)} {ks : List Cel} (M : Gms N H0 l H gs ks) {i : Nat} {g : Addr} {G : GS} (hi : gs[i]? = some (g, G)) : ∃ own, GameAt N H g own G := by
  obtain ⟨own, ga, _, f⟩ := M.step0 hi
  exact ⟨own, ga⟩
/-! ## holds -/
def holds (hs : List Int) : List Deed := hs.map fun s => .hold s.toNat
theorem mom_holds {tab : List Nat} {r : Nat} {t : List Nat} : ∀ (hs : List Int), (∀ s ∈ hs, 0 ≤ s) → replay (mom0 tab r t) (holds hs) = ⟨tab, r, t, srt hs, 0⟩ := by
  intro hs
  have key : ∀ (k : Nat), k ≤ hs.length → (∀ s ∈ hs, 0 ≤ s) → replay (mom0 tab r t) (holds (hs.take k)) = ⟨tab, r, t, srt (hs.take k), 0⟩ := by
    intro k
    induction k with
    | zero => intro _ _; rw [List.take_zero, show srt [] = [] from (srt_uniq (List.Perm.refl _) List.Pairwise.nil).symm]; rfl
    | succ k ih =>
      intro hk h0
      have e : hs[k]? = some hs[k] := List.getElem?_eq_getElem (by omega)
      have h9 : 0 ≤ hs[k] := h0 _ (List.getElem_mem _)
      rw [take_snoc e, holds, List.map_append, List.map_cons, List.map_nil, replay_snoc]
      show ap (replay (mom0 tab r t) (holds (hs.take k))) _ = _
      rw [ih (by omega) h0]
      show (⟨tab, r, t, srt (srt (hs.take k) ++ [((hs[k].toNat : Nat) : Int)]), 0⟩ : Mom) = _
      have e2 : ((hs[k].toNat : Nat) : Int) = hs[k] := by omega
      rw [e2, srt_congr ((srt_perm (hs.take k)).append_right [hs[k]])]
  intro h0
  have := key hs.length (Nat.le_refl _) h0
  rwa [List.take_of_length_le (Nat.le_refl _)] at this
theorem can_hold {tab : List Nat} {r : Nat} {t : List Nat} {hs : List Int} (st : Stub t hs) {j : Nat} {s : Int} (e : hs[j]? = some s) : canDo (replay (mom0 tab r t) (holds (hs.take j))) (.hold s.toNat) = true := by
  have hm := List.mem_of_getElem? e
  obtain ⟨h0, h1, h2⟩ := st.2 s hm
  rw [mom_holds _ fun x hx => (st.2 x (List.mem_of_mem_take hx)).1]
  have e2 : ((s.toNat : Nat) : Int) = s := by omega
  have hn : s ∉ hs.take j := fun z => by
    obtain ⟨i, ei⟩ := List.mem_iff_getElem?.mp z
    rw [List.getElem?_take] at ei
    split at ei
    · rename_i c
      obtain ⟨l1, q1⟩ := List.getElem?_eq_some_iff.mp ei
      obtain ⟨l2, q2⟩ := List.getElem?_eq_some_iff.mp e
      have := (List.getElem_inj st.1).mp (q1.trans q2.symm)
      omega
    · cases ei
  show (!decide (((s.toNat : Nat) : Int) ∈ srt (hs.take j)) && decide (t.getD s.toNat 0 = 48)) = true
  rw [e2, h2, decide_eq_false (by rw [mem_srt]; exact hn)]
  rfl
theorem holds_ok {n r : Nat} {tab : List Nat} {t : List Nat} {hs : List Int} {ds : List Deed} (ht : OkTab tab) (hr : r ≤ 2) (hn : t.length = n) (h0 : t ≠ []) (h1 : n ≤ 100) (okt : OkT r t) (st : Stub t hs) (hl : hs.length ≤ n) (wf : ∀ d ∈ ds, Wf n r d) (hd : ds.length ≤ 60) (j : Nat) : GsOk n r ⟨tab, r, t, holds (hs.take j) ++ ds, []⟩ where
  rr := rfl
  r2 := hr
  tab := ht
  n0 := by have := List.length_pos_iff.mpr h0; omega
  n1 := h1
  len := hn
  ok := okt
  log := fun d hd => by
    rcases List.mem_append.mp hd with hd | hd
    · obtain ⟨s, hs', rfl⟩ := List.mem_map.mp hd
      obtain ⟨h0, h1, h2⟩ := st.2 s (List.mem_of_mem_take hs')
      show s.toNat < n
      omega
    · exact wf d hd
  gone := by simp
  sz := by simp [holds]; omega
end Sw
namespace Sw
open PySem PySem.Spec PyProof.Rows L2
open SX (S S_cat S_len S_inj)
open SlX (SlO SlR putS slH)
/-! # the beats of several games -/
theorem eqv_ints (hs ks : List Int) : PyData.eqv (.list (hs.map PyData.int)) (.list (ks.map PyData.int)) = decide (hs = ks) := by
  rw [PyData.eqv, eqvAll_ints]
theorem hBeat_mem {tab : List Nat} {r : Nat} {hs ks : List Int} (h : ∀ i, i ∈ hs ↔ i ∈ ks) : hBeat tab r hs = hBeat tab r ks := by
  funext t
  unfold hBeat
  refine List.map_congr_left fun i _ => ?_
  by_cases c : (i : Int) ∈ hs
  · rw [if_pos c, if_pos ((h _).mp c)]
  · rw [if_neg c, if_neg fun z => c ((h _).mpr z)]
theorem hBeat_srt {tab : List Nat} {r : Nat} {hs : List Int} : hBeat tab r (srt hs) = hBeat tab r hs := hBeat_mem fun _ => mem_srt
theorem replay_app (M : Mom) (a b : List Deed) : replay M (a ++ b) = replay (replay M a) b := by
  unfold replay
  rw [List.foldl_append]
theorem replay_beats (M : Mom) : ∀ ks : List Nat, replay M (ks.map Deed.beats) = { M with t := itr (hBeat M.tab M.r M.hs) ks.sum M.t, bt := M.bt + (ks.sum : Nat) }
  | [] => by simp [replay, itr]
  | k :: ks => by
    have e : replay M ((k :: ks).map Deed.beats) = replay (ap M (.beats k)) (ks.map Deed.beats) := rfl
    rw [e, replay_beats _ ks]
    show (⟨M.tab, M.r, itr (hBeat M.tab M.r M.hs) ks.sum (itr (hBeat M.tab M.r M.hs) k M.t), M.hs, M.bt + (k : Nat) + (ks.sum : Nat)⟩ : Mom) = _
    rw [← itr_add, List.sum_cons]
    congr 1
    omega
/-- the game behind holds and beats -/
def hb (tab : List Nat) (r : Nat) (t : List Nat) (hs : List Int) (ks : List Nat) : GS := ⟨tab, r, t, holds hs ++ ks.map Deed.beats, []⟩
theorem hb_mom {tab : List Nat} {r : Nat} {t : List Nat} {hs : List Int} {ks : List Nat} (h : ∀ s ∈ hs, 0 ≤ s) : (hb tab r t hs ks).mom = ⟨tab, r, itr (hBeat tab r hs) ks.sum t, srt hs, (ks.sum : Nat)⟩ := by
  show replay (mom0 tab r t) (holds hs ++ ks.map Deed.beats) = _
  rw [replay_app, mom_holds hs h, replay_beats, hBeat_srt]
  simp
theorem hb_ok {n r : Nat} {tab : List Nat} {t : List Nat} {hs : List Int} {ks : List Nat} (ht : OkTab tab) (hr : r ≤ 2) (hn : t.length = n) (h0 : t ≠ []) (h1 : n ≤ 100) (okt : OkT r t) (st : Stub t hs) (hl : hs.length ≤ n) (wf : ∀ k ∈ ks, 1 ≤ k ∧ k ≤ 50) (hd : ks.length ≤ 60) : GsOk n r (hb tab r t hs ks) := by
  have := holds_ok (ds := ks.map Deed.beats) ht hr hn h0 h1 okt st hl (fun d hd => by
    obtain ⟨k, hk, rfl⟩ := List.mem_map.mp hd
    exact wf k hk) (by rw [List.length_map]; exact hd) hs.length
  rw [List.take_of_length_le (Nat.le_refl _)] at this
  exact this
theorem Gms.add1 {N : Nm} {H0 H : Hp} {l : List Addr} {gs : List (Addr × GS)} {D : Addr} {acc : List V} {o : HO} (M : Gms N H0 l H gs [(D, fun H => H D = some (.lst acc))]) (hl : D ∉ l) : Gms N H0 l (upd H D o) gs [(D, fun H => H D = some o)] := by
  have e := M.cel D _ List.mem_cons_self
  have hc : ∃ p ∈ [((D, fun H => H D = some (.lst acc)) : Cel)], p.1 = D := ⟨_, List.mem_cons_self, rfl⟩
  refine M.wr (m := [D]) (Kp.refl.lst e (.inl (by simp))) (fun x hx => .inr ?_) (fun x hx => ?_) fun q hq => ?_
  · rw [List.mem_singleton.mp hx]; exact hc
  · have hd : ∃ o, H x = some o := by
      obtain ⟨xs, M, rfl⟩ := M
      exact (M.l0 x hx).2
    obtain ⟨u, e⟩ := hd
    exact ⟨u, (upd_ne (fun z : x = D => hl (by rw [← z]; exact hx))).trans e⟩
  · cases List.mem_singleton.mp hq
    exact .inr ⟨hc, upd_same, ⟨_, upd_same⟩, stab_cell⟩
/-- the first i of the games hold, the others not yet -/
def asH (A B : GS) (gs : List Addr) (i : Nat) : List (Addr × GS) := (gs.take i).map (fun g => (g, A)) ++ (gs.drop i).map fun g => (g, B)
theorem asH_at {A B : GS} {gs : List Addr} {i : Nat} {g : Addr} (h : gs[i]? = some g) : (asH A B gs i)[i]? = some (g, B) := by
  obtain ⟨hi, e⟩ := List.getElem?_eq_some_iff.mp h
  unfold asH
  rw [List.getElem?_append_right (by simp; omega)]
  simp [List.getElem?_drop]
  have : i - min i gs.length = 0 := by omega
  rw [this]
  simpa using h
theorem asH_set {A B : GS} {gs : List Addr} {i : Nat} {g : Addr} (h : gs[i]? = some g) : (asH A B gs i).set i (g, A) = asH A B gs (i + 1) := by
  obtain ⟨hi, e⟩ := List.getElem?_eq_some_iff.mp h
  apply List.ext_getElem?
  intro j
  unfold asH
  by_cases hj : j = i
  · subst hj
    rw [List.getElem?_set_self (by simp; omega), List.getElem?_append_left (by simp; omega)]
    simp [List.getElem?_take, h]
  · rw [List.getElem?_set_ne (by omega)]
    by_cases c : j < i
    · rw [List.getElem?_append_left (by simp; omega), List.getElem?_append_left (by simp; omega)]
      simp [List.getElem?_take, c, show j < i + 1 by omega]
    · rw [List.getElem?_append_right (by simp; omega), List.getElem?_append_right (by simp; omega)]
      simp
      have e1 : min i gs.length = i := by omega
      have e2 : min (i + 1) gs.length = i + 1 := by omega
      rw [e1, e2, show i + (j - i) = i + 1 + (j - (i + 1)) by omega]
theorem asH_len {A B : GS} {gs : List Addr} {i : Nat} : (asH A B gs i).length = gs.length := by
  unfold asH
  simp
  omega
theorem asH_all {A B : GS} {gs : List Addr} {i : Nat} (h : gs.length = i) : asH A B gs i = gs.map fun g => (g, A) := by
  unfold asH
  rw [List.take_of_length_le (by omega), List.drop_of_length_le (by omega)]
  simp
theorem set_same {α : Type} {xs : List α} {i : Nat} {x : α} (h : xs[i]? = some x) : xs.set i x = xs := by
  apply List.ext_getElem?
  intro j
  by_cases c : j = i
  · subst c
    obtain ⟨hi, e⟩ := List.getElem?_eq_some_iff.mp h
    rw [List.getElem?_set_self hi, h]
  · rw [List.getElem?_set_ne (by omega)]
theorem ref_at {gs : List Addr} {i : Nat} {x : V} (h : (gs.map V.ref)[i]? = some x) : ∃ g, gs[i]? = some g ∧ x = .ref g := by
  rw [List.getElem?_map] at h
  cases q : gs[i]? with
  | none => rw [q] at h; cases h
  | some s => rw [q] at h; cases h; exact ⟨s, rfl, rfl⟩
/-- behind the first j holds -/
def hh (tab : List Nat) (r : Nat) (t : List Nat) (hs : List Int) (j : Nat) : GS := ⟨tab, r, t, holds (hs.take j), []⟩
theorem hh_0 {tab : List Nat} {r : Nat} {t : List Nat} {hs : List Int} : hh tab r t hs 0 = ⟨tab, r, t, [], []⟩ := by
  unfold hh
  rw [List.take_zero]
  rfl
theorem hh_all {tab : List Nat} {r : Nat} {t : List Nat} {hs : List Int} {ks : List Nat} : ks = [] → hh tab r t hs hs.length = hb tab r t hs ks := by
  rintro rfl
  unfold hh hb
  rw [List.take_of_length_le (Nat.le_refl _), List.map_nil, List.append_nil]
theorem hh_next {tab : List Nat} {r : Nat} {t : List Nat} {hs : List Int} {j m : Nat} (h : hs[j]? = some (m : Int)) : ({ hh tab r t hs j with log := (hh tab r t hs j).log ++ [.hold m], gone := [] } : GS) = hh tab r t hs (j + 1) := by
  unfold hh
  rw [take_snoc h]
  show (⟨tab, r, t, holds (hs.take j) ++ [.hold m], []⟩ : GS) = ⟨tab, r, t, holds (hs.take j ++ [(m : Int)]), []⟩
  unfold holds
  rw [List.map_append]
  rfl
theorem hh_ok {n r : Nat} {tab : List Nat} {t : List Nat} {hs : List Int} (ht : OkTab tab) (hr : r ≤ 2) (hn : t.length = n) (h0 : t ≠ []) (h1 : n ≤ 100) (okt : OkT r t) (st : Stub t hs) (hl : hs.length ≤ n) (j : Nat) : GsOk n r (hh tab r t hs j) := by
  have := holds_ok (ds := []) ht hr hn h0 h1 okt st hl (by simp) (by simp) j
  rw [List.append_nil] at this
  exact this
theorem hb_next {tab : List Nat} {r : Nat} {t : List Nat} {hs : List Int} {ks : List Nat} {k : Nat} : ({ hb tab r t hs ks with log := (hb tab r t hs ks).log ++ [.beats k], gone := [] } : GS) = hb tab r t hs (ks ++ [k]) := by
  unfold hb
  show (⟨tab, r, t, (holds hs ++ ks.map Deed.beats) ++ [.beats k], []⟩ : GS) = _
  rw [List.map_append, List.append_assoc]
  rfl
theorem hb_len {tab : List Nat} {r : Nat} {t : List Nat} {hs : List Int} {ks : List Nat} : (hb tab r t hs ks).log.length = hs.length + ks.length := by
  show (holds hs ++ ks.map Deed.beats).length = _
  unfold holds
  simp
theorem sum_rep {n : Nat} : (List.replicate n 1).sum = n := by
  induction n with
  | zero => rfl
  | succ n ih => rw [List.replicate_succ, List.sum_cons, ih]; omega
theorem three {g0 g1 g2 : Addr} {A0 A1 A2 : GS} {P : GS → Prop} (h0 : P A0) (h1 : P A1) (h2 : P A2) : ∀ (i : Nat) (g : Addr), [g0, g1, g2][i]? = some g → ∃ G, [(g0, A0), (g1, A1), (g2, A2)][i]? = some (g, G) ∧ P G
  | 0, _, e => by cases e; exact ⟨_, rfl, h0⟩
  | 1, _, e => by cases e; exact ⟨_, rfl, h1⟩
  | 2, _, e => by cases e; exact ⟨_, rfl, h2⟩
  | i + 3, _, e => by simp at e
section
variable {K : PySem.W.Frag} {w : World} {mg : Str → Option Value} {N : Nm} {base : Heap}
def sp_l_beats_right (K : PySem.W.Frag) (N : Nm) : Sp := fun vs H Q E => ∃ (b cl a : Addr) (tab : List Nat) (r : Nat) (t : List Nat) (l : Addr) (hs : List Int), vs = [.ref b, .ref a, .str (S t), .ref l] ∧ BagAt H b cl ∧ RuleAt N H a tab r ∧ OkTab tab ∧ r ≤ 2 ∧ t ≠ [] ∧ t.length ≤ 100 ∧ OkT r t ∧ H l = some (.lst (hs.map V.int)) ∧ Stub t hs ∧ hs.length ≤ t.length ∧
  ∀ H', BagAt H' b cl → Kp N [b] H H' → Q (.bl true) H'
def t_l_beats_right (K : PySem.W.Frag) (N : Nm) : TS :=
 (tSeq (tPar 10 11 (tCons (tOp rAddI (tC (.int 1)) (tCl (sp_l_take K N) E0 (tCons (tVar 0) (tCons (tC (.int 12)) tNil)))) (tCons (tCl (sp_l_take K N) E0 (tCons (tVar 0) (tCons (tC (.int 12)) tNil))) tNil)))
 (tSeq (tAsg (tLc (iRng1 (tCons (tC (.int 3)) tNil)) (gName 6) tYes (StX.tMakeR N.Game (sp_Game_init K N) E0 (tCons (tVar 1) (tCons (tVar 2) tNil))) [6]) (gName 4))
 (tSeq (tFor (iList K (tVar 4)) (gName 5)
 ((tFor (iList K (tVar 3)) (gName 12)
 ((tDrop (SlX.tMethSl N.Game (sp_Game_do K N) E0 (tVar 5) (tCons (tTup (tCons (tC (.str (S [104, 111, 108, 100]))) (tCons (tVar 12) tNil))) tNil)))))))
 (tSeq (tDrop (SlX.tMethSl N.Game (sp_Game_do K N) E0 (tOp (rIxL K) (tVar 4) (tC (.int 0))) (tCons (tTup (tCons (tC (.str (S [98, 101, 97, 116, 115]))) (tCons (tVar 10) tNil))) tNil)))
 (tSeq (tFor (iRng1 (tCons (tVar 10) tNil)) (gName 6)
 ((tDrop (SlX.tMethSl N.Game (sp_Game_do K N) E0 (tOp (rIxL K) (tVar 4) (tC (.int 1))) (tCons (tTup (tCons (tC (.str (S [98, 101, 97, 116, 115]))) (tCons (tC (.int 1)) tNil))) tNil)))))
 (tSeq (tFor (iList K (tLc (iTup K (tTup (tCons (tCB rMin2 (tCons (tVar 11) (tCons (tVar 10) tNil))) (tCons (tOp rSubI (tVar 10) (tCB rMin2 (tCons (tVar 11) (tCons (tVar 10) tNil)))) tNil)))) (gName 13) (tTest (tOp rGtI (tVar 13) (tC (.int 0)))) (tVar 13) [13])) (gName 7)
 ((tDrop (SlX.tMethSl N.Game (sp_Game_do K N) E0 (tOp (rIxL K) (tVar 4) (tC (.int 2))) (tCons (tTup (tCons (tC (.str (S [98, 101, 97, 116, 115]))) (tCons (tVar 7) tNil))) tNil)))))
 (C8.tCut (tAsg (tIf (tTest (tOp (rNeD K) (tVar 3) (tLst tNil))) (tCl (sp_held_after K N) E0 (tCons (tVar 1) (tCons (tVar 2) (tCons (tVar 3) (tCons (tVar 10) tNil))))) (tCl (sp_after K N) E0 (tCons (tVar 1) (tCons (tVar 2) (tCons (tVar 10) tNil))))) (gName 8))
 (tSeq (tAsg (tOp rCat (tLc (iList K (tVar 4)) (gName 5) tYes (SlX.tPropSl N.Game (sp_Game_text K N) E0 (tVar 5)) [5]) (tLc (iList K (tVar 4)) (gName 5) tYes (SlX.tPropSl N.Game (sp_Game_beats K N) E0 (tVar 5)) [5])) (gName 9))
 (tRet (tAndV (tCl (sp_l_alike K N) E0 (tCons (tVar 9) (tCons (tOp rCat (tOp rRep (tLst (tCons (tVar 8) tNil)) (tC (.int 3))) (tOp rRep (tLst (tCons (tVar 10) tNil)) (tC (.int 3)))) tNil))) (tOp (rEqD K) (tLc (iList K (tVar 4)) (gName 5) tYes (SlX.tMethSl N.Game (sp_Game_held K N) E0 (tVar 5) tNil) [5]) (tOp rRep (tLst (tCons (tCB (rSortedI K) (tCons (tVar 3) tNil)) tNil)) (tC (.int 3))))))))))))))
theorem pure_l_beats_right (T : Txt K w mg N) (vs : List V) (H : Hp) (Q : VK) (E : XK) (h : sp_l_beats_right K N vs H Q E) : t_l_beats_right K N (Eo Q) (start nm_l_beats_right vs) H := by
  obtain ⟨b, cl, a, tab, r, t, l, hs, rfl, bag, ra, ht, hr, hne, hlt, okt, el, st, hln, q⟩ := h
  have hlb : l ≠ b := bag.ne_ints el
  have h0 : ∀ s ∈ hs, 0 ≤ s := fun s h => (st.2 s h).1
  refine ⟨_, rfl, b, cl, 12, rfl, bag, by decide, by decide, fun j H1 hj bag1 k1 => ⟨_, _, rfl, rfl, _, rfl, b, cl, 12, rfl, bag1, by decide, by decide, fun part H2 hp bag2 k2 => ?_⟩⟩
  obtain ⟨many, hm, hm1, hm2⟩ : ∃ many : Nat, (1 : Int) + (j : Int) = (many : Nat) ∧ 1 ≤ many ∧ many ≤ 12 := ⟨1 + j, by omega, by omega, by omega⟩
  refine ⟨.int (many : Nat), .int (part : Nat), by show [V.int (1 + (j : Int)), V.int part] = _; rw [hm], ?_⟩
  have k02 : Kp N [b] H H2 := k1.then k2
  have ra2 := ra.keep k02
  have el2 := k02 _ _ el (.inl (by simp [hlb]))
  clear k1 k2 bag1 el ra bag
  -- the games
  refine ⟨3, rfl, by decide, by decide, fun D hD => ?_⟩
  refine lc_acc walk_range (fun i acc H' => ∃ gs : List Addr, gs.length = i ∧ acc = gs.map V.ref ∧ Gms N H2 [] H' (gs.map fun g => (g, hb tab r t [] [])) [(D, fun H => H D = some (.lst acc))]) (by decide) ⟨[], rfl, rfl, (Gms.nil (by simp)).cell hD⟩ (fun i acc H' ⟨gs, e1, e2, _⟩ => by rw [e2, List.length_map]; omega) (fun i acc H' _ _ _ => trivial) ?_ ?_
  · rintro i x acc H3 H' hi e z ⟨gs, e1, e2, M⟩ ⟨rfl, rfl⟩
    refine ⟨rfl, _, rfl, _, rfl, fun g dx f1 f2 f3 => mk_game M (ra2.keep M.kp) hr hne hlt okt f1 f2 f3 fun H4 M4 k4 => ⟨rfl, LcN.add (M4.cel D (fun H => H D = some (.lst acc)) List.mem_cons_self) z ⟨gs ++ [g], by simp [e1], by simp [e2], ?_⟩⟩⟩
    rw [List.map_append]
    exact M4.add1 (by simp)
  rintro acc H3 eD ⟨gs, e1, rfl, M3⟩
  clear eD
  -- the seats held
  refine ⟨_, rfl, D, rfl, ⟨_, .of (M3.cel D (fun H => H D = some (.lst (gs.map V.ref))) List.mem_cons_self)⟩, ?_⟩
  refine for_list (fun i σ H' => ∃ v5 v12, σ = [some (.ref b), some (.ref a), some (.str (S t)), some (.ref l), some (.ref D), v5, none, none, none, none, some (.int (many : Nat)), some (.int (part : Nat)), v12, none] ∧
    Gms N H2 [] H' (asH (hh tab r t hs hs.length) (hh tab r t hs 0) gs i) [(D, fun H => H D = some (.lst (gs.map V.ref)))]) ⟨none, none, rfl, ?_⟩ (fun i σ H' _ ⟨_, _, _, M⟩ => .of (M.cel D (fun H => H D = some (.lst (gs.map V.ref))) List.mem_cons_self)) ?_ ?_
  · rw [hh_0]
    exact M3
  · rintro i x σ H4 hx ⟨v5, v12, rfl, M4⟩
    obtain ⟨g, hg, rfl⟩ := ref_at hx
    have hil := (List.getElem?_eq_some_iff.mp hg).1
    refine ⟨_, rfl, l, rfl, ⟨_, .of (M4.kp _ _ el2 (.inl (by simp)))⟩, ?_⟩
    refine for_list (xs := hs.map V.int) (fun j σ H' => ∃ v12, σ = [some (.ref b), some (.ref a), some (.str (S t)), some (.ref l), some (.ref D), some (.ref g), none, none, none, none, some (.int (many : Nat)), some (.int (part : Nat)), v12, none] ∧
      Gms N H2 [] H' ((asH (hh tab r t hs hs.length) (hh tab r t hs 0) gs i).set i (g, hh tab r t hs j)) [(D, fun H => H D = some (.lst (gs.map V.ref)))]) ⟨v12, rfl, ?_⟩ (fun j σ H' _ ⟨_, _, M⟩ => .of (M.kp _ _ el2 (.inl (by simp)))) ?_ ?_
    · rw [set_same (asH_at hg)]
      exact M4
    · rintro j x σ H5 hx ⟨v12, rfl, M5⟩
      obtain ⟨s, hs1, rfl⟩ := int_at hx
      obtain ⟨m, rfl⟩ := Int.eq_ofNat_of_zero_le (h0 s (List.mem_of_getElem? hs1))
      have hi5 : ((asH (hh tab r t hs hs.length) (hh tab r t hs 0) gs i).set i (g, hh tab r t hs j))[i]? = some (g, hh tab r t hs j) := List.getElem?_set_self (by rw [asH_len]; exact hil)
      obtain ⟨dx, ws, slt⟩ := M5.slt hi5
      have can := can_hold (tab := tab) (r := r) st hs1
      have wf : Wf t.length r (.hold m) := by
        have := (st.2 _ (List.mem_of_getElem? hs1)).2.1
        show m < t.length
        omega
      have hlen : (hh tab r t hs j).log.length < 190 := by
        show (holds (hs.take j)).length < 190
        unfold holds
        simp
        omega
      refine ⟨_, rfl, g, dx, ws, rfl, slt, _, rfl, by show 2 ≤ sizeLine; decide, fun p hp => ?_⟩
      refine do_deed (D := .hold m) M5 hi5 (hh_ok ht hr rfl hne hlt okt st hln j) hlen wf can hp fun H6 M6 => ?_
      rw [List.set_set, hh_next hs1] at M6
      exact ⟨_, rfl, M6⟩
    · rintro σ H5 ⟨v12, rfl, M5⟩
      rw [List.length_map, asH_set hg] at M5
      exact ⟨_, _, rfl, M5⟩
  rintro σ H4 ⟨v5, v12, rfl, M4⟩
  rw [List.length_map, asH_all rfl, hh_all rfl] at M4
  obtain ⟨g0, g1, g2, rfl⟩ : ∃ g0 g1 g2, gs = [g0, g1, g2] := by
    match gs, e1 with
    | [a, b, c], _ => exact ⟨a, b, c, rfl⟩
  clear e1
  have okb : ∀ ks : List Nat, (∀ k ∈ ks, 1 ≤ k ∧ k ≤ 50) → ks.length ≤ 60 → GsOk t.length r (hb tab r t hs ks) := fun ks => hb_ok ht hr rfl hne hlt okt st hln
  have lenb : ∀ ks : List Nat, ks.length ≤ 60 → (hb tab r t hs ks).log.length < 190 := fun ks h => by rw [hb_len]; omega
  have wfb : ∀ k : Nat, 1 ≤ k → k ≤ 50 → Wf t.length r (.beats k) := fun k h1 h2 => ⟨h1, h2⟩
  have cellD : ∀ {H' gs}, Gms N H2 [] H' gs [(D, fun H => H D = some (.lst ([g0, g1, g2].map V.ref)))] → H' D = some (.lst ([g0, g1, g2].map V.ref)) := fun M => M.cel D (fun H => H D = some (.lst ([g0, g1, g2].map V.ref))) List.mem_cons_self
  -- the first
  have M4' : Gms N H2 [] H4 [(g0, hb tab r t hs []), (g1, hb tab r t hs []), (g2, hb tab r t hs [])] [(D, fun H => H D = some (.lst ([g0, g1, g2].map V.ref)))] := M4
  obtain ⟨dx, ws, slt⟩ := M4'.slt (i := 0) rfl
  refine ⟨_, rfl, D, _, 0, _, rfl, rfl, .of (cellD M4'), rfl, g0, dx, ws, rfl, slt, _, rfl, by show 2 ≤ sizeLine; decide, fun p hp => ?_⟩
  refine do_deed (i := 0) (D := .beats many) M4' rfl (okb _ (by simp) (by simp)) (lenb _ (by simp)) (wfb many hm1 (by omega)) rfl hp fun H5 M5 => ?_
  rw [hb_next] at M5
  clear slt hp M4 M4'
  -- the second
  refine ⟨_, rfl, many, rfl, by omega, by omega, ?_⟩
  have em : ((many : Nat) : Int).toNat = many := by omega
  rw [em]
  refine for_range (fun i σ H' => ∃ v6, σ = [some (.ref b), some (.ref a), some (.str (S t)), some (.ref l), some (.ref D), v5, v6, none, none, none, some (.int (many : Nat)), some (.int (part : Nat)), v12, none] ∧
    Gms N H2 [] H' [(g0, hb tab r t hs [many]), (g1, hb tab r t hs (List.replicate i 1)), (g2, hb tab r t hs [])] [(D, fun H => H D = some (.lst ([g0, g1, g2].map V.ref)))]) ⟨none, rfl, M5⟩ ?_ ?_
  · rintro i σ H6 hi ⟨v6, rfl, M6⟩
    obtain ⟨dx, ws, slt⟩ := M6.slt (i := 1) rfl
    refine ⟨_, rfl, D, _, 1, _, rfl, rfl, .of (cellD M6), rfl, g1, dx, ws, rfl, slt, by show 2 ≤ sizeLine; decide, fun p hp => ?_⟩
    refine do_deed (i := 1) (D := .beats 1) M6 rfl (okb _ (fun k hk => by rw [List.eq_of_mem_replicate hk]; decide) (by simp; omega)) (lenb _ (by simp; omega)) (wfb 1 (by decide) (by decide)) rfl hp fun H7 M7 => ?_
    rw [hb_next, ← List.replicate_succ'] at M7
    exact ⟨_, rfl, M7⟩
  rintro σ H6 ⟨v6, rfl, M6⟩
  -- the third
  obtain ⟨pp, qq, hpq, epq⟩ : ∃ pp qq : Nat, pp + qq = many ∧ [V.int (if (many : Int) < (part : Int) then (many : Int) else (part : Int)), V.int ((many : Int) - if (many : Int) < (part : Int) then (many : Int) else (part : Int))] = [V.int (pp : Nat), V.int (qq : Nat)] := by
    by_cases c : (many : Int) < (part : Int)
    · exact ⟨many, 0, rfl, by rw [if_pos c]; simp⟩
    · refine ⟨part, many - part, by omega, ?_⟩
      rw [if_neg c, show ((many - part : Nat) : Int) = (many : Int) - part by omega]
  have hpart : ∀ k ∈ [pp, qq].filter (fun k => decide (0 < k)), 1 ≤ k ∧ k ≤ 50 := fun k hk => by
    simp only [List.mem_filter, List.mem_cons, List.not_mem_nil, or_false, decide_eq_true_eq] at hk
    omega
  have hsum : ([pp, qq].filter fun k => decide (0 < k)).sum = many := by
    by_cases c1 : 0 < pp <;> by_cases c2 : 0 < qq <;> simp [List.filter, c1, c2] <;> omega
  have hlenp : ([pp, qq].filter fun k => decide (0 < k)).length ≤ 2 := List.length_filter_le _ _
  refine ⟨_, rfl, _, rfl, _, _, rfl, _, rfl, _, rfl, _, rfl, _, _, rfl, _, _, rfl, rfl, by show 2 ≤ sizeLine; decide, fun T1 hT => ?_⟩
  have M7 := M6.same (Kp.refl.new hT (o := .tup [V.int (if (many : Int) < (part : Int) then (many : Int) else (part : Int)), V.int ((many : Int) - if (many : Int) < (part : Int) then (many : Int) else (part : Int))]))
  have eT : (upd H6 T1 (.tup [V.int (if (many : Int) < (part : Int) then (many : Int) else (part : Int)), V.int ((many : Int) - if (many : Int) < (part : Int) then (many : Int) else (part : Int))])) T1 = some (.tup [V.int (pp : Nat), V.int (qq : Nat)]) := by rw [← epq]; exact upd_same
  refine ⟨T1, rfl, ⟨_, .of eT⟩, ?_⟩
  generalize upd H6 T1 (.tup [V.int (if (many : Int) < (part : Int) then (many : Int) else (part : Int)), V.int ((many : Int) - if (many : Int) < (part : Int) then (many : Int) else (part : Int))]) = H7 at *
  refine fun D2 hD2 => ?_
  refine lc_acc walk_tup (fun i acc H' => acc = (([pp, qq].take i).filter fun k => decide (0 < k)).map (fun k : Nat => V.int (k : Nat)) ∧ Kp N [] H7 H') (by show 2 ≤ 100000; decide) ⟨rfl, Kp.refl.new hD2⟩ (fun i acc H' r => ?_) (fun i acc H' _ _ r => .of (r.2 _ _ eT (.inl (by simp)))) ?_ ?_
  · rw [r.1, List.length_map]
    exact Nat.le_trans (List.length_filter_le _ _) (by rw [List.length_take]; omega)
  · rintro i x acc H8 H9 hi e z ⟨rfl, k8⟩ ⟨rfl, hx⟩
    obtain ⟨k, hk, rfl⟩ : ∃ k : Nat, [pp, qq][i]? = some k ∧ x = .int (k : Nat) := by
      have : i = 0 ∨ i = 1 := by have : i < 2 := hi; omega
      rcases this with rfl | rfl
      · cases hx; exact ⟨pp, rfl, rfl⟩
      · cases hx; exact ⟨qq, rfl, rfl⟩
    refine ⟨rfl, _, rfl, _, _, rfl, rfl, _, rfl, ?_⟩
    by_cases c : 0 < k
    · refine if_t (decide_eq_true (by omega)) ⟨_, rfl, LcN.add e z ⟨?_, k8.put hD2⟩⟩
      rw [take_snoc hk, List.filter_append, List.map_append]
      simp [c]
    · refine if_f (decide_eq_false (by omega)) ⟨_, e, ?_, k8⟩
      rw [take_snoc hk, List.filter_append, List.map_append]
      simp [c]
  rintro acc H8 eD2 ⟨rfl, k8⟩
  have M8 := M7.same k8
  have et : (([pp, qq].take [V.int (pp : Nat), V.int (qq : Nat)].length).filter fun k => decide (0 < k)) = [pp, qq].filter fun k => decide (0 < k) := rfl
  rw [et] at eD2
  generalize hP : ([pp, qq].filter fun k => decide (0 < k)) = P at *
  have M9 := M7.reg k8 (D2, fun H => H D2 = some (.lst (P.map fun k : Nat => V.int (k : Nat)))) hD2 eD2 ⟨_, eD2⟩ stab_cell
  refine ⟨D2, rfl, ⟨_, .of eD2⟩, ?_⟩
  clear M8 k8 eD2 et M7 hD2 hD hT
  refine for_list (xs := P.map fun k : Nat => V.int (k : Nat)) (fun i σ H' => ∃ v7, σ = [some (.ref b), some (.ref a), some (.str (S t)), some (.ref l), some (.ref D), v5, v6, v7, none, none, some (.int (many : Nat)), some (.int (part : Nat)), v12, none] ∧
    Gms N H2 [] H' [(g0, hb tab r t hs [many]), (g1, hb tab r t hs (List.replicate many 1)), (g2, hb tab r t hs (P.take i))] [(D2, fun H => H D2 = some (.lst (P.map fun k : Nat => V.int (k : Nat)))), (D, fun H => H D = some (.lst ([g0, g1, g2].map V.ref)))]) ⟨none, rfl, M9⟩
    (fun i σ H' _ ⟨_, _, M⟩ => .of (M.cel D2 (fun H => H D2 = some (.lst (P.map fun k : Nat => V.int (k : Nat)))) List.mem_cons_self)) ?_ ?_
  · rintro i x σ H9 hx ⟨v7, rfl, M9⟩
    obtain ⟨k, hk, rfl⟩ : ∃ k : Nat, P[i]? = some k ∧ x = .int (k : Nat) := by
      rw [List.getElem?_map] at hx
      cases q : P[i]? with
      | none => rw [q] at hx; cases hx
      | some k => rw [q] at hx; cases hx; exact ⟨k, rfl, rfl⟩
    have hk2 := hpart k (List.mem_of_getElem? hk)
    have eD9 : H9 D = some (.lst ([g0, g1, g2].map V.ref)) := M9.cel D (fun H => H D = some (.lst ([g0, g1, g2].map V.ref))) (List.mem_cons_of_mem _ List.mem_cons_self)
    obtain ⟨dx, ws, slt⟩ := M9.slt (i := 2) rfl
    refine ⟨_, rfl, D, _, 2, _, rfl, rfl, .of eD9, rfl, g2, dx, ws, rfl, slt, _, rfl, by show 2 ≤ sizeLine; decide, fun p hp => ?_⟩
    refine do_deed (i := 2) (D := .beats k) M9 rfl (okb _ (fun k hk => hpart k (List.mem_of_mem_take hk)) (by rw [List.length_take]; omega)) (lenb _ (by rw [List.length_take]; omega)) (wfb k hk2.1 hk2.2) rfl hp fun H10 M10 => ?_
    rw [hb_next, ← take_snoc hk] at M10
    exact ⟨_, rfl, M10⟩
  rintro σ H9 ⟨v7, rfl, M9⟩
  rw [List.length_map, List.take_of_length_le (Nat.le_refl _)] at M9
  have M10 := M9.sub (ks' := [(D, fun H => H D = some (.lst ([g0, g1, g2].map V.ref)))]) (by simp)
  clear M9 M6 M5
  have el9 := M10.kp _ _ el2 (.inl (by simp))
  have ra9 := ra2.keep M10.kp
  -- what is due
  refine ⟨fun σ H' => σ = [some (.ref b), some (.ref a), some (.str (S t)), some (.ref l), some (.ref D), v5, v6, v7, some (.str (S (itr (hBeat tab r hs) many t))), none, some (.int (many : Nat)), some (.int (part : Nat)), v12, none] ∧ Kp N [] H9 H', ?_, ?_⟩
  · refine ⟨_, rfl, by show 0 ≤ sizeLine; decide, fun e0 he0 => ?_⟩
    have k1 : Kp N [] H9 (upd H9 e0 (.lst [])) := Kp.refl.new he0
    have ee : (upd H9 e0 (.lst [])) e0 = some (.lst []) := upd_same
    have el1 := k1 _ _ el9 (.inl (by simp))
    have ra1 := ra9.keep k1
    generalize upd H9 e0 (.lst []) = H10 at *
    have nh : Nice 200 2 (.list (hs.map PyData.int)) := (nice_ints (fun s h => ⟨(st.2 s h).1, (st.2 s h).2.1⟩) (by omega)).list.mono (by omega) (by decide)
    refine ⟨.list (hs.map PyData.int), .list (([] : List Int).map PyData.int), .lst (.of el1) (dp_ints _), .lst (.of ee) .nil, nh.shaped (by decide), rfl, _, rfl, ?_⟩
    rw [eqv_ints]
    by_cases c : hs = []
    · subst c
      refine if_f rfl ?_
      exact ⟨_, rfl, _, rfl, _, rfl, a, tab, r, t, many, rfl, ra1, ht, hr, hne, by omega, okt, by omega, fun H' k' => ⟨rfl, k1.then k'⟩⟩
    · refine if_t (by rw [decide_eq_false c]; rfl) ?_
      exact ⟨_, rfl, _, rfl, _, rfl, _, rfl, a, tab, r, t, l, hs, many, rfl, ra1, el1, ht, hr, hne, by omega, okt, by omega, st, by omega, fun H' k' => ⟨rfl, k1.then k'⟩⟩
  rintro σ H11 ⟨rfl, k11⟩
  have M11 := M10.same k11
  clear M10 el9 ra9 k11
  have el11 := M11.kp _ _ el2 (.inl (by simp))
  have eD11 := cellD M11
  obtain ⟨gsl, hgsl, M12⟩ : ∃ gsl, (∀ i g, [g0, g1, g2][i]? = some g → ∃ G : GS, gsl[i]? = some (g, G) ∧ G.mom = ⟨tab, r, itr (hBeat tab r hs) many t, srt hs, (many : Nat)⟩) ∧ Gms N H2 [] H11 gsl [(D, fun H => H D = some (.lst ([g0, g1, g2].map V.ref)))] := by
    have m1 := hb_mom (tab := tab) (r := r) (t := t) (ks := [many]) h0
    have m2 := hb_mom (tab := tab) (r := r) (t := t) (ks := List.replicate many 1) h0
    have m3 := hb_mom (tab := tab) (r := r) (t := t) (ks := P) h0
    rw [sum_rep] at m2
    rw [hsum] at m3
    rw [show ([many].sum) = many by simp] at m1
    exact ⟨_, three (P := fun G => G.mom = ⟨tab, r, itr (hBeat tab r hs) many t, srt hs, (many : Nat)⟩) m1 m2 m3, M11⟩
  clear M11
  have hTT : (itr (hBeat tab r hs) many t).length ≤ 100 := by rw [itr_hBeat_length]; exact hlt
  have hTc : ∀ c ∈ itr (hBeat tab r hs) many t, c < 1000 := okT_lt hr (itr_hBeat_ok ht okt many)
  generalize itr (hBeat tab r hs) many t = TT at *
  -- the texts
  refine ⟨_, rfl, D, rfl, ⟨_, .of eD11⟩, fun D3 hD3 => ?_⟩
  refine lc_acc walk_list (fun i acc H' => acc = List.replicate i (.str (S TT)) ∧ Kp N [] H11 H') (by show 3 ≤ 100000; decide) ⟨rfl, Kp.refl.new hD3⟩ (fun i acc H' r => by rw [r.1, List.length_replicate]; exact Nat.le_refl _) (fun i acc H' _ _ r => .of (r.2 _ _ eD11 (.inl (by simp)))) ?_ ?_
  · rintro i x acc H8 H9 hi e z ⟨rfl, k8⟩ ⟨rfl, hx⟩
    obtain ⟨g, hg, rfl⟩ := ref_at hx
    obtain ⟨G, hG, mG⟩ := hgsl i g hg
    have M8 := M12.same k8
    obtain ⟨own, ga⟩ := M8.game hG
    obtain ⟨dx, ws, slt⟩ := ga.slt
    refine ⟨rfl, _, rfl, g, dx, ws, rfl, slt, g, own, G, rfl, ga, ?_⟩
    rw [mG]
    exact LcN.add e z ⟨by rw [List.replicate_succ'], k8.put hD3⟩
  rintro acc H13 eD3 ⟨rfl, k13⟩
  have M13 := M12.same k13
  have eD13 := k13 _ _ eD11 (.inl (by simp))
  have el13 := k13 _ _ el11 (.inl (by simp))
  clear M12 eD11 el11 k13 hD3
  -- the beats
  refine ⟨_, rfl, D, rfl, ⟨_, .of eD13⟩, fun D4 hD4 => ?_⟩
  refine lc_acc walk_list (fun i acc H' => acc = List.replicate i (.int (many : Nat)) ∧ Kp N [] H13 H') (by show 3 ≤ 100000; decide) ⟨rfl, Kp.refl.new hD4⟩ (fun i acc H' r => by rw [r.1, List.length_replicate]; exact Nat.le_refl _) (fun i acc H' _ _ r => .of (r.2 _ _ eD13 (.inl (by simp)))) ?_ ?_
  · rintro i x acc H8 H9 hi e z ⟨rfl, k8⟩ ⟨rfl, hx⟩
    obtain ⟨g, hg, rfl⟩ := ref_at hx
    obtain ⟨G, hG, mG⟩ := hgsl i g hg
    have M8 := M13.same k8
    obtain ⟨own, ga⟩ := M8.game hG
    obtain ⟨dx, ws, slt⟩ := ga.slt
    refine ⟨rfl, _, rfl, g, dx, ws, rfl, slt, g, own, G, rfl, ga, ?_⟩
    rw [mG]
    exact LcN.add e z ⟨by rw [List.replicate_succ'], k8.put hD4⟩
  rintro acc H14 eD4 ⟨rfl, k14⟩
  have M14 := M13.same k14
  have eD14 := k14 _ _ eD13 (.inl (by simp))
  have el14 := k14 _ _ el13 (.inl (by simp))
  have eD3' := k14 _ _ eD3 (.inl (by simp))
  clear M13 eD13 el13 k14 eD3 hD4
  refine ⟨D3, D4, _, _, rfl, rfl, eD3', eD4, by show 6 ≤ sizeLine; decide, fun D5 hD5 => ?_⟩
  have k15 : Kp N [] H14 (upd H14 D5 (.lst (List.replicate ([g0, g1, g2].map V.ref).length (.str (S TT)) ++ List.replicate ([g0, g1, g2].map V.ref).length (.int (many : Nat))))) := Kp.refl.new hD5
  have eD5 : (upd H14 D5 (.lst (List.replicate ([g0, g1, g2].map V.ref).length (.str (S TT)) ++ List.replicate ([g0, g1, g2].map V.ref).length (.int (many : Nat))))) D5 = some (.lst [.str (S TT), .str (S TT), .str (S TT), .int (many : Nat), .int (many : Nat), .int (many : Nat)]) := upd_same
  generalize upd H14 D5 (.lst (List.replicate ([g0, g1, g2].map V.ref).length (.str (S TT)) ++ List.replicate ([g0, g1, g2].map V.ref).length (.int (many : Nat)))) = H15 at *
  have M15 := M14.same k15
  have eD15 := k15 _ _ eD14 (.inl (by simp))
  have el15 := k15 _ _ el14 (.inl (by simp))
  clear M14 eD14 el14 eD3' eD4 hD5
  -- alike
  refine ⟨_, rfl, _, rfl, by show 1 ≤ sizeLine; decide, fun p1 hp1 => ?_⟩
  have k16 : Kp N [] H15 (upd H15 p1 (.lst [.str (S TT)])) := Kp.refl.new hp1
  have e1 : (upd H15 p1 (.lst [.str (S TT)])) p1 = some (.lst [.str (S TT)]) := upd_same
  generalize upd H15 p1 (.lst [.str (S TT)]) = H16 at *
  refine ⟨p1, 3, _, rfl, rfl, e1, by decide, by decide, by show 1 * 3 ≤ sizeLine; decide, fun p2 hp2 => ?_⟩
  have k17 : Kp N [] H16 (upd H16 p2 (.lst (List.replicate (3 : Int).toNat [V.str (S TT)]).flatten)) := Kp.refl.new hp2
  have e2 : (upd H16 p2 (.lst (List.replicate (3 : Int).toNat [V.str (S TT)]).flatten)) p2 = some (.lst [.str (S TT), .str (S TT), .str (S TT)]) := upd_same
  generalize upd H16 p2 (.lst (List.replicate (3 : Int).toNat [V.str (S TT)]).flatten) = H17 at *
  refine ⟨_, rfl, by show 1 ≤ sizeLine; decide, fun p3 hp3 => ?_⟩
  have k18 : Kp N [] H17 (upd H17 p3 (.lst [.int (many : Nat)])) := Kp.refl.new hp3
  have e3 : (upd H17 p3 (.lst [.int (many : Nat)])) p3 = some (.lst [.int (many : Nat)]) := upd_same
  have e2' := k18 _ _ e2 (.inl (by simp))
  generalize upd H17 p3 (.lst [.int (many : Nat)]) = H18 at *
  refine ⟨p3, 3, _, rfl, rfl, e3, by decide, by decide, by show 1 * 3 ≤ sizeLine; decide, fun p4 hp4 => ?_⟩
  have k19 : Kp N [] H18 (upd H18 p4 (.lst (List.replicate (3 : Int).toNat [V.int (many : Nat)]).flatten)) := Kp.refl.new hp4
  have e4 : (upd H18 p4 (.lst (List.replicate (3 : Int).toNat [V.int (many : Nat)]).flatten)) p4 = some (.lst [.int (many : Nat), .int (many : Nat), .int (many : Nat)]) := upd_same
  have e2'' := k19 _ _ e2' (.inl (by simp))
  generalize upd H18 p4 (.lst (List.replicate (3 : Int).toNat [V.int (many : Nat)]).flatten) = H19 at *
  refine ⟨p2, p4, _, _, rfl, rfl, e2'', e4, by show 6 ≤ sizeLine; decide, fun p5 hp5 => ?_⟩
  have k20 : Kp N [] H19 (upd H19 p5 (.lst ([.str (S TT), .str (S TT), .str (S TT)] ++ [.int (many : Nat), .int (many : Nat), .int (many : Nat)]))) := Kp.refl.new hp5
  have e5 : (upd H19 p5 (.lst ([.str (S TT), .str (S TT), .str (S TT)] ++ [.int (many : Nat), .int (many : Nat), .int (many : Nat)]))) p5 = some (.lst [.str (S TT), .str (S TT), .str (S TT), .int (many : Nat), .int (many : Nat), .int (many : Nat)]) := upd_same
  have kk : Kp N [] H15 (upd H19 p5 (.lst ([.str (S TT), .str (S TT), .str (S TT)] ++ [.int (many : Nat), .int (many : Nat), .int (many : Nat)]))) := (((k16.then k17).then k18).then k19).then k20
  have eD5' := kk _ _ eD5 (.inl (by simp))
  have n1 : Nice 100 1 (.str (S TT)) := (Nice.str hTc hTT).mono (Nat.le_refl _) (by decide)
  have hmi : ((many : Nat) : Int).natAbs < 10 ^ 45 := by
    have : (1000000 : Nat) < 10 ^ 45 := by decide
    omega
  have n2 : Nice 100 1 (.int (many : Nat)) := (Nice.int hmi).mono (by decide) (by decide)
  have nn : Nice 2000 2 (.list [.str (S TT), .str (S TT), .str (S TT), .int (many : Nat), .int (many : Nat), .int (many : Nat)]) := (NiceAll.cons n1 (.cons n1 (.cons n1 (.cons n2 (.cons n2 (.cons n2 .nil)))))).list.mono (by decide) (by decide)
  have dp : ∀ {p}, (upd H19 p5 (.lst ([.str (S TT), .str (S TT), .str (S TT)] ++ [.int (many : Nat), .int (many : Nat), .int (many : Nat)]))) p = some (.lst [.str (S TT), .str (S TT), .str (S TT), .int (many : Nat), .int (many : Nat), .int (many : Nat)]) →
      Dp K (upd H19 p5 (.lst ([.str (S TT), .str (S TT), .str (S TT)] ++ [.int (many : Nat), .int (many : Nat), .int (many : Nat)]))) (.ref p) (.list [.str (S TT), .str (S TT), .str (S TT), .int (many : Nat), .int (many : Nat), .int (many : Nat)]) := fun e => .lst (.of e) (.cons (.str _) (.cons (.str _) (.cons (.str _) (.cons (.int _) (.cons (.int _) (.cons (.int _) .nil))))))
  refine ⟨D5, p5, _, 2000, 2, rfl, dp eD5', dp e5, nn, by decide, by decide, _, rfl, if_t rfl ?_⟩
  clear dp
  have M20 := M15.same kk
  have eD20 := kk _ _ eD15 (.inl (by simp))
  have el20 := kk _ _ el15 (.inl (by simp))
  generalize upd H19 p5 (.lst ([.str (S TT), .str (S TT), .str (S TT)] ++ [.int (many : Nat), .int (many : Nat), .int (many : Nat)])) = H20 at *
  clear kk k16 k17 k18 k19 k20 e1 e2 e3 e4 e5 e2' e2'' eD5 eD5' M15 eD15 el15
  -- held
  refine ⟨_, rfl, D, rfl, ⟨_, .of eD20⟩, fun D6 hD6 => ?_⟩
  refine lc_acc walk_list (fun i acc H' => ∃ ps : List Addr, ps.length = i ∧ acc = ps.map V.ref ∧ (∀ p ∈ ps, p ≠ D6 ∧ H' p = some (.lst ((srt hs).map V.int))) ∧ Kp N [] H20 H') (by show 3 ≤ 100000; decide) ⟨[], rfl, rfl, by simp, Kp.refl.new hD6⟩ (fun i acc H' ⟨ps, q1, q2, _⟩ => by rw [q2, List.length_map]; omega) (fun i acc H' _ _ ⟨ps, _, _, _, k⟩ => .of (k _ _ eD20 (.inl (by simp)))) ?_ ?_
  · rintro i x acc H8 H9 hi e z ⟨ps, q1, rfl, q3, k8⟩ ⟨rfl, hx⟩
    obtain ⟨g, hg, rfl⟩ := ref_at hx
    obtain ⟨G, hG, mG⟩ := hgsl i g hg
    have M8 := M20.same k8
    obtain ⟨own, ga⟩ := M8.game hG
    obtain ⟨dx, ws, slt⟩ := ga.slt
    refine ⟨rfl, _, rfl, g, dx, ws, rfl, slt, g, own, G, rfl, ga, fun p hp => ?_⟩
    rw [mG]
    have pD : p ≠ D6 := Ne.symm (ne_of_none e hp)
    refine LcN.add ((upd_ne (Ne.symm pD)).trans e) z ⟨ps ++ [p], by simp [q1], by simp, fun y hy => ?_, (k8.new hp).put hD6⟩
    rcases List.mem_append.mp hy with hy | hy
    · exact ⟨(q3 y hy).1, (upd_ne (q3 y hy).1).trans ((upd_ne (ne_of_none (q3 y hy).2 hp)).trans (q3 y hy).2)⟩
    · cases List.mem_singleton.mp hy
      exact ⟨pD, (upd_ne pD).trans upd_same⟩
  rintro acc H21 eD6 ⟨ps, q1, rfl, q3, k21⟩
  obtain ⟨s0, s1, s2, rfl⟩ : ∃ s0 s1 s2, ps = [s0, s1, s2] := by
    match ps, q1 with
    | [a, b, c], _ => exact ⟨a, b, c, rfl⟩
  have el21 := k21 _ _ el20 (.inl (by simp))
  refine ⟨_, rfl, l, hs, rfl, .of el21, fun ns p6 hperm hsort hp6 => ?_⟩
  have ens : ns = srt hs := srt_uniq hperm hsort
  subst ens
  have k22 : Kp N [] H21 (upd H21 p6 (.lst ((srt hs).map V.int))) := Kp.refl.new hp6
  have e6 : (upd H21 p6 (.lst ((srt hs).map V.int))) p6 = some (.lst ((srt hs).map V.int)) := upd_same
  generalize upd H21 p6 (.lst ((srt hs).map V.int)) = H22 at *
  refine ⟨by show 1 ≤ sizeLine; decide, fun p7 hp7 => ?_⟩
  have k23 : Kp N [] H22 (upd H22 p7 (.lst [.ref p6])) := Kp.refl.new hp7
  have e7 : (upd H22 p7 (.lst [.ref p6])) p7 = some (.lst [.ref p6]) := upd_same
  have e6' := k23 _ _ e6 (.inl (by simp))
  generalize upd H22 p7 (.lst [.ref p6]) = H23 at *
  refine ⟨p7, 3, _, rfl, rfl, e7, by decide, by decide, by show 1 * 3 ≤ sizeLine; decide, fun p8 hp8 => ?_⟩
  have k24 : Kp N [] H23 (upd H23 p8 (.lst (List.replicate (3 : Int).toNat [V.ref p6]).flatten)) := Kp.refl.new hp8
  have e8 : (upd H23 p8 (.lst (List.replicate (3 : Int).toNat [V.ref p6]).flatten)) p8 = some (.lst [.ref p6, .ref p6, .ref p6]) := upd_same
  have e6'' := k24 _ _ e6' (.inl (by simp))
  have kz : Kp N [] H21 (upd H23 p8 (.lst (List.replicate (3 : Int).toNat [V.ref p6]).flatten)) := (k22.then k23).then k24
  generalize upd H23 p8 (.lst (List.replicate (3 : Int).toNat [V.ref p6]).flatten) = H24 at *
  have nh : Nice 200 1 (.list ((srt hs).map PyData.int)) := (nice_ints (n := t.length) (fun s h => ⟨(st.2 s (mem_srt.mp h)).1, (st.2 s (mem_srt.mp h)).2.1⟩) (by omega)).list.mono (by rw [srt_length]; omega) (by decide)
  have nh3 : Nice 2000 2 (.list [.list ((srt hs).map PyData.int), .list ((srt hs).map PyData.int), .list ((srt hs).map PyData.int)]) := (NiceAll.cons nh (.cons nh (.cons nh .nil))).list.mono (by decide) (by decide)
  have dl : ∀ {p}, H24 p = some (.lst ((srt hs).map V.int)) → Dp K H24 (.ref p) (.list ((srt hs).map PyData.int)) := fun e => .lst (.of e) (dp_ints _)
  refine ⟨_, _, .lst (.of (kz _ _ eD6 (.inl (by simp)))) (.cons (dl (kz _ _ (q3 s0 (by simp)).2 (.inl (by simp)))) (.cons (dl (kz _ _ (q3 s1 (by simp)).2 (.inl (by simp)))) (.cons (dl (kz _ _ (q3 s2 (by simp)).2 (.inl (by simp)))) .nil))), .lst (.of e8) (.cons (dl e6'') (.cons (dl e6'') (.cons (dl e6'') .nil))), nh3.shaped (by decide), nh3.shaped (by decide), ?_⟩
  rw [nh3.refl]
  have kw : Kp N [] H2 H24 := ((M20.kp).then k21).then kz
  exact q H24 (bag2.keep kw (by simp) (by simp)) (k02.then kw.up)
theorem ok_l_beats_right (T : Txt K w mg N) : FnG Pw w K mg base CX0 13 N.l_beats_right (sp_l_beats_right K N) := by
  obtain ⟨fd, F, b⟩ := T.d_l_beats_right
  exact mk_fnG F b sc_l_beats_right (fun vs H Q E h => by (repeat (first | (obtain ⟨rfl, _⟩ := h; rfl) | (obtain ⟨_, h⟩ := h)))) fun cdv A outer s H vs Q E hr hG h => ⟨t_l_beats_right K N, (PSs.nox (by exact (pss_cons (ps_par (i := 10) (j := 11) rfl sc_l_beats_right.nd rfl rfl (by decide) rfl rfl (pa_cons (pe_op op_add pe_int (pe_cl (ok_l_take T) (hr.mono (by decide)) rfl T.g_l_take T.k_l_take pass0 (pa_cons (pv 0) (pa_cons pe_int pa_nil)))) (pa_cons (pe_cl (ok_l_take T) (hr.mono (by decide)) rfl T.g_l_take T.k_l_take pass0 (pa_cons (pv 0) (pa_cons pe_int pa_nil))) pa_nil)) rfl)
 (pss_cons (ps_setLc (own := [(("_law_k" : Str), 6)]) (g := (gName 6)) (tt := tYes) (i := 4) rfl sc_l_beats_right.nd rfl rfl (sw_true rfl rfl rfl (by decide +kernel)) (pi_range1 rfl T.n_range (pa_cons pe_int pa_nil)) (blkOk_by (N := nm_l_beats_right) (sc := defScope s_l_beats_right) (by decide +kernel)) (fun _ _ _ _ _ => (pg_name (i := 6) sc_l_beats_right.nd rfl (Or.inl rfl))) (fun _ _ _ _ _ => pts_nil) (fun _ _ _ _ _ => (StX.pe_makeR T.mk_Game (ok_Game_init T) (hr.mono (by decide)) rfl T.g_Game pass0 (pa_cons (pv 1) (pa_cons (pv 2) pa_nil)))))
 (pss_cons (ps_for PassesOwn.never rfl (pi_list (pv 4)) (pg_name (i := 5) sc_l_beats_right.nd rfl (Or.inl rfl))
 (pss_one (ps_for PassesOwn.never rfl (pi_list (pv 3)) (pg_name (i := 12) sc_l_beats_right.nd rfl (Or.inl rfl))
 (pss_one (ps_expr (SlX.pe_methSl (pv 5) T.c_Game T.m_Game_do (ok_Game_do T) (hr.mono (by decide)) passL (pa_cons (pe_tup (pa_cons (pe_lit (l := [104, 111, 108, 100]) (by decide +kernel)) (pa_cons (pv 12) pa_nil))) pa_nil)))))))
 (pss_cons (ps_expr (SlX.pe_methSl (pe_ix ix_list (pv 4) pe_int (fun _ _ => rfl)) T.c_Game T.m_Game_do (ok_Game_do T) (hr.mono (by decide)) passL (pa_cons (pe_tup (pa_cons (pe_lit (l := [98, 101, 97, 116, 115]) (by decide +kernel)) (pa_cons (pv 10) pa_nil))) pa_nil)))
 (pss_cons (ps_for PassesOwn.never rfl (pi_range1 rfl T.n_range (pa_cons (pv 10) pa_nil)) (pg_name (i := 6) sc_l_beats_right.nd rfl (Or.inl rfl))
 (pss_one (ps_expr (SlX.pe_methSl (pe_ix ix_list (pv 4) pe_int (fun _ _ => rfl)) T.c_Game T.m_Game_do (ok_Game_do T) (hr.mono (by decide)) passL (pa_cons (pe_tup (pa_cons (pe_lit (l := [98, 101, 97, 116, 115]) (by decide +kernel)) (pa_cons pe_int pa_nil))) pa_nil)))))
 (pss_cons (ps_for PassesOwn.never rfl (pi_list (pe_lc (own := [(("_law_one" : Str), 13)]) (g := (gName 13)) (tt := (tTest (tOp rGtI (tVar 13) (tC (.int 0))))) rfl sc_l_beats_right.nd (pi_tup (pe_tup (pa_cons (pe_callB (call_min2 rfl) rfl T.n_min bt_min (pa_cons (pv 11) (pa_cons (pv 10) pa_nil))) (pa_cons (pe_op op_sub (pv 10) (pe_callB (call_min2 rfl) rfl T.n_min bt_min (pa_cons (pv 11) (pa_cons (pv 10) pa_nil)))) pa_nil)))) (blkOk_by (N := nm_l_beats_right) (sc := defScope s_l_beats_right) (by decide +kernel)) (fun _ _ _ _ _ => (pg_name (i := 13) sc_l_beats_right.nd rfl (Or.inl rfl))) (fun _ _ _ _ _ => (pts_one (pt_cmpR op_gt (pv 13) pe_int (nomark _)))) (fun _ _ _ _ _ => (pv 13)))) (pg_name (i := 7) sc_l_beats_right.nd rfl (Or.inl rfl))
 (pss_one (ps_expr (SlX.pe_methSl (pe_ix ix_list (pv 4) pe_int (fun _ _ => rfl)) T.c_Game T.m_Game_do (ok_Game_do T) (hr.mono (by decide)) passL (pa_cons (pe_tup (pa_cons (pe_lit (l := [98, 101, 97, 116, 115]) (by decide +kernel)) (pa_cons (pv 7) pa_nil))) pa_nil)))))
 (C8.pss_cut (ps_set (i := 8) sc_l_beats_right.nd rfl (Or.inl rfl) (pe_ifExp (pt_cmpR (op_neD hr.units) (pv 3) (pe_lst pa_nil) (nomark _)) (pe_cl (ok_held_after T) (hr.mono (by decide)) rfl T.g_held_after T.k_held_after pass0 (pa_cons (pv 1) (pa_cons (pv 2) (pa_cons (pv 3) (pa_cons (pv 10) pa_nil))))) (pe_cl (ok_after T) (hr.mono (by decide)) rfl T.g_after T.k_after pass0 (pa_cons (pv 1) (pa_cons (pv 2) (pa_cons (pv 10) pa_nil))))))
 (pss_cons (ps_set (i := 9) sc_l_beats_right.nd rfl (Or.inl rfl) (pe_op op_cat (pe_lc (own := [(("_law_game" : Str), 5)]) (g := (gName 5)) (tt := tYes) rfl sc_l_beats_right.nd (pi_list (pv 4)) (blkOk_by (N := nm_l_beats_right) (sc := defScope s_l_beats_right) (by decide +kernel)) (fun _ _ _ _ _ => (pg_name (i := 5) sc_l_beats_right.nd rfl (Or.inl rfl))) (fun _ _ _ _ _ => pts_nil) (fun _ _ _ _ _ => (SlX.pe_propSl (pv 5) T.c_Game T.p_Game_text.at_ T.p_Game_text.get T.p_Game_text.tak T.p_Game_text.rec_ (ok_Game_text T) (hr.mono (by decide)) (fun _ _ _ _ z => z)))) (pe_lc (own := [(("_law_game" : Str), 5)]) (g := (gName 5)) (tt := tYes) rfl sc_l_beats_right.nd (pi_list (pv 4)) (blkOk_by (N := nm_l_beats_right) (sc := defScope s_l_beats_right) (by decide +kernel)) (fun _ _ _ _ _ => (pg_name (i := 5) sc_l_beats_right.nd rfl (Or.inl rfl))) (fun _ _ _ _ _ => pts_nil) (fun _ _ _ _ _ => (SlX.pe_propSl (pv 5) T.c_Game T.p_Game_beats.at_ T.p_Game_beats.get T.p_Game_beats.tak T.p_Game_beats.rec_ (ok_Game_beats T) (hr.mono (by decide)) (fun _ _ _ _ z => z))))))
 (pss_one (ps_ret (pe_and (pe_clG (ok_l_alike T) (hr.mono (by decide)) hG rfl T.g_l_alike T.k_l_alike pass0 (pa_cons (pv 9) (pa_cons (pe_op op_cat (pe_op op_rep (pe_lst (pa_cons (pv 8) pa_nil)) pe_int) (pe_op op_rep (pe_lst (pa_cons (pv 10) pa_nil)) pe_int)) pa_nil))) (pe_one (pe_cmpR (op_eqD hr.units) (pe_lc (own := [(("_law_game" : Str), 5)]) (g := (gName 5)) (tt := tYes) rfl sc_l_beats_right.nd (pi_list (pv 4)) (blkOk_by (N := nm_l_beats_right) (sc := defScope s_l_beats_right) (by decide +kernel)) (fun _ _ _ _ _ => (pg_name (i := 5) sc_l_beats_right.nd rfl (Or.inl rfl))) (fun _ _ _ _ _ => pts_nil) (fun _ _ _ _ _ => (SlX.pe_methSl0 (pv 5) T.c_Game T.m_Game_held (ok_Game_held T) (hr.mono (by decide)) pass0))) (pe_op op_rep (pe_lst (pa_cons (pe_callB cr_sortedI rfl T.n_sorted bt_sorted (pa_cons (pv 3) pa_nil)) pa_nil)) pe_int) (nomark _)))))))))))))))), pure_l_beats_right T vs H Q E h⟩
end
end Sw
namespace Sw
open PySem PySem.Spec PyProof.Rows L2
open SX (S S_cat S_len S_inj)
open SlX (SlO SlR putS slH)
/-! # a turn and beats, either way round -/
/-- the game behind holds and what follows -/
def hw (tab : List Nat) (r : Nat) (t : List Nat) (hs : List Int) (ds : List Deed) : GS := ⟨tab, r, t, holds hs ++ ds, []⟩
theorem hh_hw {tab : List Nat} {r : Nat} {t : List Nat} {hs : List Int} : hh tab r t hs hs.length = hw tab r t hs [] := by
  unfold hh hw
  rw [List.take_of_length_le (Nat.le_refl _), List.append_nil]
theorem hw_next {tab : List Nat} {r : Nat} {t : List Nat} {hs : List Int} {ds : List Deed} {D : Deed} : ({ hw tab r t hs ds with log := (hw tab r t hs ds).log ++ [D], gone := [] } : GS) = hw tab r t hs (ds ++ [D]) := by
  unfold hw
  show (⟨tab, r, t, (holds hs ++ ds) ++ [D], []⟩ : GS) = _
  rw [List.append_assoc]
theorem hw_len {tab : List Nat} {r : Nat} {t : List Nat} {hs : List Int} {ds : List Deed} : (hw tab r t hs ds).log.length = hs.length + ds.length := by
  show (holds hs ++ ds).length = _
  unfold holds
  simp
theorem hw_ok {n r : Nat} {tab : List Nat} {t : List Nat} {hs : List Int} {ds : List Deed} (ht : OkTab tab) (hr : r ≤ 2) (hn : t.length = n) (h0 : t ≠ []) (h1 : n ≤ 100) (okt : OkT r t) (st : Stub t hs) (hl : hs.length ≤ n) (wf : ∀ d ∈ ds, Wf n r d) (hd : ds.length ≤ 60) : GsOk n r (hw tab r t hs ds) := by
  have := holds_ok ht hr hn h0 h1 okt st hl wf hd hs.length
  rw [List.take_of_length_le (Nat.le_refl _)] at this
  exact this
theorem hw_mom {tab : List Nat} {r : Nat} {t : List Nat} {hs : List Int} {ds : List Deed} (h : ∀ s ∈ hs, 0 ≤ s) : (hw tab r t hs ds).mom = replay ⟨tab, r, t, srt hs, 0⟩ ds := by
  show replay (mom0 tab r t) (holds hs ++ ds) = _
  rw [replay_app, mom_holds hs h]
section
variable {K : PySem.W.Frag} {w : World} {mg : Str → Option Value} {N : Nm} {base : Heap}
def sp_l_turns_right (K : PySem.W.Frag) (N : Nm) : Sp := fun vs H Q E => ∃ (b cl a : Addr) (tab : List Nat) (r : Nat) (t : List Nat) (l : Addr) (hs : List Int), vs = [.ref b, .ref a, .str (S t), .ref l] ∧ BagAt H b cl ∧ RuleAt N H a tab r ∧ OkTab tab ∧ r ≤ 2 ∧ t ≠ [] ∧ t.length ≤ 100 ∧ OkT r t ∧ H l = some (.lst (hs.map V.int)) ∧ Stub t hs ∧ hs.length ≤ t.length ∧
  ∀ H', BagAt H' b cl → Kp N [b] H H' → Q (.bl true) H'
def t_l_turns_right (K : PySem.W.Frag) (N : Nm) : TS :=
 (tSeq (tAsg (tTup (tCons (tOp rSubI (tCl (sp_l_take K N) E0 (tCons (tVar 0) (tCons (tC (.int 30)) tNil))) (tC (.int 15))) (tCons (tOp rAddI (tC (.int 1)) (tCl (sp_l_take K N) E0 (tCons (tVar 0) (tCons (tC (.int 9)) tNil)))) (tCons (tLst (tCons (StX.tMakeR N.Game (sp_Game_init K N) E0 (tCons (tVar 1) (tCons (tVar 2) tNil))) (tCons (StX.tMakeR N.Game (sp_Game_init K N) E0 (tCons (tVar 1) (tCons (tVar 2) tNil))) tNil))) tNil)))) (gTup K 3 (gCons (gName 7) (gCons (gName 8) (gCons (gName 9) gNil)))))
 (tSeq (tFor (iList K (tVar 9)) (gName 4)
 ((tFor (iList K (tVar 3)) (gName 10)
 ((tDrop (SlX.tMethSl N.Game (sp_Game_do K N) E0 (tVar 4) (tCons (tTup (tCons (tC (.str (S [104, 111, 108, 100]))) (tCons (tVar 10) tNil))) tNil)))))))
 (tSeq (tDrop (SlX.tMethSl N.Game (sp_Game_do K N) E0 (tOp (rIxL K) (tVar 9) (tC (.int 0))) (tCons (tTup (tCons (tC (.str (S [116, 117, 114, 110]))) (tCons (tVar 7) tNil))) tNil)))
 (tSeq (tDrop (SlX.tMethSl N.Game (sp_Game_do K N) E0 (tOp (rIxL K) (tVar 9) (tC (.int 0))) (tCons (tTup (tCons (tC (.str (S [98, 101, 97, 116, 115]))) (tCons (tVar 8) tNil))) tNil)))
 (tSeq (tDrop (SlX.tMethSl N.Game (sp_Game_do K N) E0 (tOp (rIxL K) (tVar 9) (tC (.int 1))) (tCons (tTup (tCons (tC (.str (S [98, 101, 97, 116, 115]))) (tCons (tVar 8) tNil))) tNil)))
 (tSeq (tAsg (SlX.tPropSl N.Game (sp_Game_text K N) E0 (tOp (rIxL K) (tVar 9) (tC (.int 1)))) (gName 5))
 (tSeq (tDrop (SlX.tMethSl N.Game (sp_Game_do K N) E0 (tOp (rIxL K) (tVar 9) (tC (.int 1))) (tCons (tTup (tCons (tC (.str (S [116, 117, 114, 110]))) (tCons (tVar 7) tNil))) tNil)))
 (tSeq (tIfS (tOr (tTest (tOp rNeX (SlX.tPropSl N.Game (sp_Game_text K N) E0 (tOp (rIxL K) (tVar 9) (tC (.int 0)))) (SlX.tPropSl N.Game (sp_Game_text K N) E0 (tOp (rIxL K) (tVar 9) (tC (.int 1)))))) (tTest (tOp (rNeD K) (SlX.tMethSl N.Game (sp_Game_held K N) E0 (tOp (rIxL K) (tVar 9) (tC (.int 0))) tNil) (SlX.tMethSl N.Game (sp_Game_held K N) E0 (tOp (rIxL K) (tVar 9) (tC (.int 1))) tNil))))
 tNever tNext)
 (tSeq (tAsg (tCB (rSortedI K) (tCons (tLc (iList K (tVar 3)) (gName 10) tYes (tOp rModI (tCB rIntI (tCons (tOp rAddI (tVar 10) (tVar 7)) tNil)) (tCB rLenX (tCons (tVar 2) tNil))) [10]) tNil)) (gName 6))
 (tRet (tAndV (tOp (rOwnNe K N.Game (sp_Game_eq K N) E0) (tOp (rIxL K) (tVar 9) (tC (.int 0))) (tOp (rIxL K) (tVar 9) (tC (.int 1)))) (tAndV (tOp rEqX (SlX.tPropSl N.Game (sp_Game_text K N) E0 (tOp (rIxL K) (tVar 9) (tC (.int 1)))) (tCl (sp_turned_by K N) E0 (tCons (tVar 5) (tCons (tVar 7) tNil)))) (tOp (rEqD K) (SlX.tMethSl N.Game (sp_Game_held K N) E0 (tOp (rIxL K) (tVar 9) (tC (.int 0))) tNil) (tVar 6))))))))))))))
theorem pure_l_turns_right (T : Txt K w mg N) (vs : List V) (H : Hp) (Q : VK) (E : XK) (h : sp_l_turns_right K N vs H Q E) : t_l_turns_right K N (Eo Q) (start nm_l_turns_right vs) H := by
  obtain ⟨b, cl, a, tab, r, t, l, hs, rfl, bag, ra, ht, hr, hne, hlt, okt, el, st, hln, q⟩ := h
  have hlb : l ≠ b := bag.ne_ints el
  have h0 : ∀ s ∈ hs, 0 ≤ s := fun s h => (st.2 s h).1
  refine ⟨_, rfl, b, cl, 30, rfl, bag, by decide, by decide, fun j H1 hj bag1 k1 => ⟨_, _, rfl, rfl, _, rfl, b, cl, 9, rfl, bag1, by decide, by decide, fun m H2 hm bag2 k2 => ⟨_, _, rfl, rfl, ?_⟩⟩⟩
  have k02 : Kp N [b] H H2 := k1.then k2
  have ra2 := ra.keep k02
  have el2 := k02 _ _ el (.inl (by simp [hlb]))
  clear k1 k2 bag1 el ra bag
  have M2 : Gms N H2 [] H2 [] [] := Gms.nil (by simp)
  refine ⟨_, rfl, _, rfl, fun g0 dx f1 f2 f3 => mk_game M2 ra2 hr hne hlt okt f1 f2 f3 fun H3 M3 k3 => ⟨rfl, _, rfl, _, rfl, fun g1 dx' f1' f2' f3' => mk_game M3 (ra2.keep k3) hr hne hlt okt f1' f2' f3' fun H4 M4 k4 => ⟨rfl, by show 2 ≤ sizeLine; decide, fun D hD => ⟨by show 3 ≤ sizeLine; decide, fun p hp => ?_⟩⟩⟩⟩
  clear f1 f2 f3 f1' f2' f3'
  have M5 := (M4.cell (o := .lst [.ref g0, .ref g1]) hD).same (Kp.refl.new hp (o := .tup [.int ((j : Int) - 15), .int (1 + (m : Int)), .ref D]))
  obtain ⟨pl, hpl, hpl2⟩ : ∃ pl : Int, (j : Int) - 15 = pl ∧ pl.natAbs ≤ 20 := ⟨_, rfl, by omega⟩
  obtain ⟨many, hmm, hm1, hm2⟩ : ∃ many : Nat, (1 : Int) + (m : Int) = (many : Nat) ∧ 1 ≤ many ∧ many ≤ 12 := ⟨1 + m, by omega, by omega, by omega⟩
  have ep : (upd (upd H4 D (.lst [.ref g0, .ref g1])) p (.tup [.int ((j : Int) - 15), .int (1 + (m : Int)), .ref D])) p = some (.tup [.int pl, .int (many : Nat), .ref D]) := by rw [← hpl, ← hmm]; exact upd_same
  refine ⟨p, _, rfl, .of ep, rfl, _, _, rfl, _, _, rfl, _, _, rfl, rfl, ?_⟩
  generalize upd (upd H4 D (.lst [.ref g0, .ref g1])) p (.tup [.int ((j : Int) - 15), .int (1 + (m : Int)), .ref D]) = H5 at *
  have hgs : ∃ gs, gs = [g0, g1] := ⟨_, rfl⟩
  obtain ⟨gs, hgs⟩ := hgs
  have M3' : Gms N H2 [] H5 (gs.map fun g => (g, ⟨tab, r, t, [], []⟩)) [(D, fun H => H D = some (.lst (gs.map V.ref)))] := by rw [hgs]; exact M5
  clear M5 M4 M3 M2 hp hD
  have M3 := M3'
  clear M3'
  -- the seats held
  refine ⟨_, rfl, D, rfl, ⟨_, .of (M3.cel D (fun H => H D = some (.lst (gs.map V.ref))) List.mem_cons_self)⟩, ?_⟩
  refine for_list (fun i σ H' => ∃ v5 v12, σ = [some (.ref b), some (.ref a), some (.str (S t)), some (.ref l), v5, none, none, some (.int pl), some (.int (many : Nat)), some (.ref D), v12] ∧
    Gms N H2 [] H' (asH (hh tab r t hs hs.length) (hh tab r t hs 0) gs i) [(D, fun H => H D = some (.lst (gs.map V.ref)))]) ⟨none, none, rfl, ?_⟩ (fun i σ H' _ ⟨_, _, _, M⟩ => .of (M.cel D (fun H => H D = some (.lst (gs.map V.ref))) List.mem_cons_self)) ?_ ?_
  · rw [hh_0]
    exact M3
  · rintro i x σ H4 hx ⟨v5, v12, rfl, M4⟩
    obtain ⟨g, hg, rfl⟩ := ref_at hx
    have hil := (List.getElem?_eq_some_iff.mp hg).1
    refine ⟨_, rfl, l, rfl, ⟨_, .of (M4.kp _ _ el2 (.inl (by simp)))⟩, ?_⟩
    refine for_list (xs := hs.map V.int) (fun j σ H' => ∃ v12, σ = [some (.ref b), some (.ref a), some (.str (S t)), some (.ref l), some (.ref g), none, none, some (.int pl), some (.int (many : Nat)), some (.ref D), v12] ∧
      Gms N H2 [] H' ((asH (hh tab r t hs hs.length) (hh tab r t hs 0) gs i).set i (g, hh tab r t hs j)) [(D, fun H => H D = some (.lst (gs.map V.ref)))]) ⟨v12, rfl, ?_⟩ (fun j σ H' _ ⟨_, _, M⟩ => .of (M.kp _ _ el2 (.inl (by simp)))) ?_ ?_
    · rw [set_same (asH_at hg)]
      exact M4
    · rintro j x σ H5 hx ⟨v12, rfl, M5⟩
      obtain ⟨s, hs1, rfl⟩ := int_at hx
      obtain ⟨m, rfl⟩ := Int.eq_ofNat_of_zero_le (h0 s (List.mem_of_getElem? hs1))
      have hi5 : ((asH (hh tab r t hs hs.length) (hh tab r t hs 0) gs i).set i (g, hh tab r t hs j))[i]? = some (g, hh tab r t hs j) := List.getElem?_set_self (by rw [asH_len]; exact hil)
      obtain ⟨dx, ws, slt⟩ := M5.slt hi5
      have can := can_hold (tab := tab) (r := r) st hs1
      have wf : Wf t.length r (.hold m) := by
        have := (st.2 _ (List.mem_of_getElem? hs1)).2.1
        show m < t.length
        omega
      have hlen : (hh tab r t hs j).log.length < 190 := by
        show (holds (hs.take j)).length < 190
        unfold holds
        simp
        omega
      refine ⟨_, rfl, g, dx, ws, rfl, slt, _, rfl, by show 2 ≤ sizeLine; decide, fun p hp => ?_⟩
      refine do_deed (D := .hold m) M5 hi5 (hh_ok ht hr rfl hne hlt okt st hln j) hlen wf can hp fun H6 M6 => ?_
      rw [List.set_set, hh_next hs1] at M6
      exact ⟨_, rfl, M6⟩
    · rintro σ H5 ⟨v12, rfl, M5⟩
      rw [List.length_map, asH_set hg] at M5
      exact ⟨_, _, rfl, M5⟩
  rintro σ H4 ⟨v5, v12, rfl, M4⟩
  rw [List.length_map, asH_all rfl, hh_hw] at M4
  subst hgs
  have cellD : ∀ {H' gs}, Gms N H2 [] H' gs [(D, fun H => H D = some (.lst ([g0, g1].map V.ref)))] → H' D = some (.lst ([g0, g1].map V.ref)) := fun M => M.cel D (fun H => H D = some (.lst ([g0, g1].map V.ref))) List.mem_cons_self
  have okb : ∀ ds : List Deed, (∀ d ∈ ds, Wf t.length r d) → ds.length ≤ 60 → GsOk t.length r (hw tab r t hs ds) := fun ds => hw_ok ht hr rfl hne hlt okt st hln
  have lenb : ∀ ds : List Deed, ds.length ≤ 60 → (hw tab r t hs ds).log.length < 190 := fun ks h => by rw [hw_len]; omega
  have wT : Wf t.length r (.turn pl) := by
    show pl.natAbs ≤ 10 ^ 39
    have : (1000 : Nat) ≤ 10 ^ 39 := by decide
    omega
  have wB : Wf t.length r (.beats many) := ⟨hm1, by omega⟩
  have w1 : ∀ d ∈ [Deed.turn pl], Wf t.length r d := fun d hd => by rw [List.mem_singleton.mp hd]; exact wT
  have w2 : ∀ d ∈ [Deed.beats many], Wf t.length r d := fun d hd => by rw [List.mem_singleton.mp hd]; exact wB
  -- the deeds
  have M4' : Gms N H2 [] H4 [(g0, hw tab r t hs []), (g1, hw tab r t hs [])] [(D, fun H => H D = some (.lst ([g0, g1].map V.ref)))] := M4
  obtain ⟨dx, ws, slt⟩ := M4'.slt (i := 0) rfl
  refine ⟨_, rfl, D, _, 0, _, rfl, rfl, .of (cellD M4'), rfl, g0, dx, ws, rfl, slt, _, rfl, by show 2 ≤ sizeLine; decide, fun p hp => ?_⟩
  refine do_deed (i := 0) (D := .turn pl) M4' rfl (okb _ (by simp) (by simp)) (lenb _ (by simp)) wT rfl hp fun H5 M5 => ?_
  rw [hw_next] at M5
  have M5' : Gms N H2 [] H5 [(g0, hw tab r t hs [.turn pl]), (g1, hw tab r t hs [])] [(D, fun H => H D = some (.lst ([g0, g1].map V.ref)))] := M5
  clear slt hp M4 M4' M5
  obtain ⟨dx, ws, slt⟩ := M5'.slt (i := 0) rfl
  refine ⟨_, rfl, D, _, 0, _, rfl, rfl, .of (cellD M5'), rfl, g0, dx, ws, rfl, slt, _, rfl, by show 2 ≤ sizeLine; decide, fun p hp => ?_⟩
  refine do_deed (i := 0) (D := .beats many) M5' rfl (okb _ w1 (by simp)) (lenb _ (by simp)) wB rfl hp fun H6 M6 => ?_
  rw [hw_next] at M6
  have M6' : Gms N H2 [] H6 [(g0, hw tab r t hs [.turn pl, .beats many]), (g1, hw tab r t hs [])] [(D, fun H => H D = some (.lst ([g0, g1].map V.ref)))] := M6
  clear slt hp M5' M6
  obtain ⟨dx, ws, slt⟩ := M6'.slt (i := 1) rfl
  refine ⟨_, rfl, D, _, 1, _, rfl, rfl, .of (cellD M6'), rfl, g1, dx, ws, rfl, slt, _, rfl, by show 2 ≤ sizeLine; decide, fun p hp => ?_⟩
  refine do_deed (i := 1) (D := .beats many) M6' rfl (okb _ (by simp) (by simp)) (lenb _ (by simp)) wB rfl hp fun H7 M7 => ?_
  rw [hw_next] at M7
  have M7' : Gms N H2 [] H7 [(g0, hw tab r t hs [.turn pl, .beats many]), (g1, hw tab r t hs [.beats many])] [(D, fun H => H D = some (.lst ([g0, g1].map V.ref)))] := M7
  clear slt hp M6' M7
  obtain ⟨own, ga⟩ := M7'.game (i := 1) rfl
  obtain ⟨dx, ws, slt⟩ := ga.slt
  refine ⟨_, rfl, D, _, 1, _, rfl, rfl, .of (cellD M7'), rfl, g1, dx, ws, rfl, slt, g1, own, _, rfl, ga, ?_⟩
  obtain ⟨TS, hTS⟩ : ∃ TS, TS = itr (hBeat tab r (srt hs)) many t := ⟨_, rfl⟩
  have eS : (hw tab r t hs [.beats many]).mom.t = TS := by rw [hw_mom h0, hTS]; rfl
  rw [eS]
  clear slt ga
  obtain ⟨dx, ws, slt⟩ := M7'.slt (i := 1) rfl
  refine ⟨_, rfl, D, _, 1, _, rfl, rfl, .of (cellD M7'), rfl, g1, dx, ws, rfl, slt, _, rfl, by show 2 ≤ sizeLine; decide, fun p hp => ?_⟩
  refine do_deed (i := 1) (D := .turn pl) M7' rfl (okb _ w2 (by simp)) (lenb _ (by simp)) wT rfl hp fun H8 M8 => ?_
  rw [hw_next] at M8
  have M8' : Gms N H2 [] H8 [(g0, hw tab r t hs [.turn pl, .beats many]), (g1, hw tab r t hs [.beats many, .turn pl])] [(D, fun H => H D = some (.lst ([g0, g1].map V.ref)))] := M8
  clear slt hp M7' M8
  have hbd : ∀ s ∈ srt hs, 0 ≤ s ∧ s < (t.length : Int) := fun s h => ⟨(st.2 s (mem_srt.mp h)).1, (st.2 s (mem_srt.mp h)).2.1⟩
  have lTS : TS.length = t.length := by rw [hTS, itr_hBeat_length]
  obtain ⟨HS, hHS⟩ : ∃ HS, HS = srt (hTurn t.length pl (srt hs)) := ⟨_, rfl⟩
  have eA : (hw tab r t hs [.turn pl, .beats many]).mom = ⟨tab, r, turned TS pl, HS, (many : Nat)⟩ := by
    rw [hw_mom h0, hTS, ← itr_turned hbd pl (hs' := HS) (fun i => by rw [hHS]; exact mem_srt), hHS]
    show (⟨tab, r, _, _, 0 + (many : Int)⟩ : Mom) = _
    rw [Int.zero_add]
    rfl
  have eB : (hw tab r t hs [.beats many, .turn pl]).mom = ⟨tab, r, turned TS pl, HS, (many : Nat)⟩ := by
    rw [hw_mom h0, hHS, ← lTS, hTS]
    show (⟨tab, r, _, _, 0 + (many : Int)⟩ : Mom) = _
    rw [Int.zero_add]
    rfl
  have hHS2 : HS = srt (hs.map fun s => (s + pl) % (t.length : Int)) := by
    rw [hHS]
    exact srt_congr ((srt_perm hs).map _)
  have hn0 : (0 : Int) < t.length := by
    have := List.length_pos_iff.mpr hne
    omega
  have hHSb : ∀ s ∈ HS, 0 ≤ s ∧ s < (t.length : Int) := fun s h => by
    rw [hHS2] at h
    obtain ⟨x, _, rfl⟩ := List.mem_map.mp (mem_srt.mp h)
    exact ⟨Int.emod_nonneg _ (by omega), Int.emod_lt_of_pos _ hn0⟩
  have hHSl : HS.length ≤ 100 := by
    rw [hHS2, srt_length, List.length_map]; omega
  have nHS : Nice 200 1 (.list (HS.map PyData.int)) := (nice_ints hHSb (by omega)).list.mono (by omega) (by decide)
  -- alike
  obtain ⟨ow0, ga0⟩ := M8'.game (i := 0) rfl
  obtain ⟨dx0, ws0, sl0⟩ := ga0.slt
  obtain ⟨ow1, ga1⟩ := M8'.game (i := 1) rfl
  obtain ⟨dx1, ws1, sl1⟩ := ga1.slt
  have eD := cellD M8'
  refine ⟨_, rfl, D, _, 0, _, rfl, rfl, .of eD, rfl, g0, dx0, ws0, rfl, sl0, g0, ow0, _, rfl, ga0, ?_⟩
  rw [eA]
  refine ⟨_, rfl, D, _, 1, _, rfl, rfl, .of eD, rfl, g1, dx1, ws1, rfl, sl1, g1, ow1, _, rfl, ga1, ?_⟩
  rw [eB]
  refine ⟨turned TS pl, turned TS pl, rfl, rfl, _, rfl, if_f (by rw [dec_rfl]; decide) ?_⟩
  refine ⟨_, rfl, D, _, 0, _, rfl, rfl, .of eD, rfl, g0, dx0, ws0, rfl, sl0, g0, ow0, _, rfl, ga0, fun p1 hp1 => ?_⟩
  rw [eA]
  have k1 : Kp N [] H8 (upd H8 p1 (.lst (HS.map V.int))) := Kp.refl.new hp1
  have e1 : (upd H8 p1 (.lst (HS.map V.int))) p1 = some (.lst (HS.map V.int)) := upd_same
  have M9 := M8'.same k1
  obtain ⟨ow1, ga1⟩ := M9.game (i := 1) rfl
  obtain ⟨dx1, ws1, sl1⟩ := ga1.slt
  refine ⟨_, rfl, D, _, 1, _, rfl, rfl, .of (cellD M9), rfl, g1, dx1, ws1, rfl, sl1, g1, ow1, _, rfl, ga1, fun p2 hp2 => ?_⟩
  rw [eB]
  clear ga0 sl0 ga1 sl1
  change ∃ _, _
  generalize upd H8 p1 (.lst (HS.map V.int)) = H9 at *
  have k2 : Kp N [] H9 (upd H9 p2 (.lst (HS.map V.int))) := Kp.refl.new hp2
  have e2 : (upd H9 p2 (.lst (HS.map V.int))) p2 = some (.lst (HS.map V.int)) := upd_same
  have M10 := M9.same k2
  refine ⟨.list (HS.map PyData.int), .list (HS.map PyData.int), .lst (.of (k2 _ _ e1 (.inl (by simp)))) (dp_ints _), .lst (.of e2) (dp_ints _), nHS.shaped (by decide), nHS.shaped (by decide), _, rfl, ?_⟩
  rw [nHS.refl]
  refine if_f rfl ?_
  generalize upd H9 p2 (.lst (HS.map V.int)) = H10 at *
  clear k1 k2 e1 e2 M9 hp1 hp2 eD M8'
  have el10 := M10.kp _ _ el2 (.inl (by simp))
  refine ⟨_, rfl, l, rfl, ⟨_, .of el10⟩, fun D2 hD2 => ?_⟩
  refine lc_acc walk_list (fun i acc H' => acc = ((hs.take i).map fun s => V.int ((s + pl) % (t.length : Int))) ∧ Kp N [] H10 H') (by rw [List.length_map]; omega) ⟨rfl, Kp.refl.new hD2⟩ (fun i acc H' r => by rw [r.1]; simp; omega) (fun i acc H' _ _ r => .of (r.2 _ _ el10 (.inl (by simp)))) ?_ ?_
  · rintro i x acc H8 H9 hi e z ⟨rfl, k8⟩ ⟨rfl, hx⟩
    obtain ⟨s, hs1, rfl⟩ := int_at hx
    refine ⟨rfl, _, rfl, _, rfl, _, _, rfl, rfl, _, rfl, _, rfl, t, rfl, by omega, _, _, rfl, rfl, hn0, LcN.add e z ⟨?_, k8.put hD2⟩⟩
    rw [take_snoc hs1, List.map_append]
    rfl
  rintro acc H11 eD2 ⟨rfl, k11⟩
  rw [List.length_map, List.take_of_length_le (Nat.le_refl _)] at eD2
  have eD2' : H11 D2 = some (.lst ((hs.map fun s => (s + pl) % (t.length : Int)).map V.int)) := by rw [List.map_map]; exact eD2
  refine ⟨D2, _, rfl, .of eD2', fun ns p3 hperm hsort hp3 => ?_⟩
  have ens : ns = HS := by rw [hHS2]; exact srt_uniq hperm hsort
  subst ens
  have k12 : Kp N [] H10 (upd H11 p3 (.lst (ns.map V.int))) := k11.new hp3
  have e3 : (upd H11 p3 (.lst (ns.map V.int))) p3 = some (.lst (ns.map V.int)) := upd_same
  generalize upd H11 p3 (.lst (ns.map V.int)) = H12 at *
  have M12 := M10.same k12
  obtain ⟨ow0, ga0⟩ := M12.game (i := 0) rfl
  obtain ⟨dx0, ws0, sl0⟩ := ga0.slt
  obtain ⟨ow1, ga1⟩ := M12.game (i := 1) rfl
  obtain ⟨dx1, ws1, sl1⟩ := ga1.slt
  have w12 : ∀ d ∈ [Deed.turn pl, .beats many], Wf t.length r d := fun d hd => by
    simp only [List.mem_cons, List.not_mem_nil, or_false] at hd
    rcases hd with rfl | rfl
    · exact wT
    · exact wB
  have w21 : ∀ d ∈ [Deed.beats many, .turn pl], Wf t.length r d := fun d hd => by
    simp only [List.mem_cons, List.not_mem_nil, or_false] at hd
    rcases hd with rfl | rfl
    · exact wB
    · exact wT
  have hnl : ((hw tab r t hs [.turn pl, .beats many]).log = (hw tab r t hs [.beats many, .turn pl]).log) = False := by
    refine eq_false fun z => ?_
    have z' : holds hs ++ [Deed.turn pl, .beats many] = holds hs ++ [.beats many, .turn pl] := z
    have := List.append_cancel_left z'
    cases this
  refine ⟨_, rfl, D, _, 0, _, rfl, rfl, .of (cellD M12), rfl, _, rfl, D, _, 1, _, rfl, rfl, .of (cellD M12), rfl, g0, dx0, ws0, g1, N.Game, dx1, ws1, rfl, rfl, sl0, sl1, T.nf_Game, g0, g1, ow0, ow1, _, _, t.length, r, rfl, ga0, ga1, okb _ w12 (by simp), okb _ w21 (by simp), rfl, rfl, _, rfl, _, rfl, ?_⟩
  refine if_t (by rw [decide_eq_false (by rw [hnl]; exact id)]; rfl) ?_
  refine ⟨_, rfl, D, _, 1, _, rfl, rfl, .of (cellD M12), rfl, g1, dx1, ws1, rfl, sl1, g1, ow1, _, rfl, ga1, ?_⟩
  rw [eB]
  refine ⟨_, rfl, _, rfl, TS, pl, rfl, fun z => ?_, by omega, turned TS pl, turned TS pl, rfl, rfl, _, rfl, if_t dec_rfl ?_⟩
  · rw [z] at lTS
    exact hne (List.length_eq_zero_iff.mp lTS.symm)
  refine ⟨_, rfl, D, _, 0, _, rfl, rfl, .of (cellD M12), rfl, g0, dx0, ws0, rfl, sl0, g0, ow0, _, rfl, ga0, fun p4 hp4 => ?_⟩
  rw [eA]
  have k13 : Kp N [] H12 (upd H12 p4 (.lst (ns.map V.int))) := Kp.refl.new hp4
  have e4 : (upd H12 p4 (.lst (ns.map V.int))) p4 = some (.lst (ns.map V.int)) := upd_same
  refine ⟨_, rfl, .list (ns.map PyData.int), .list (ns.map PyData.int), .lst (.of e4) (dp_ints _), .lst (.of (k13 _ _ e3 (.inl (by simp)))) (dp_ints _), nHS.shaped (by decide), nHS.shaped (by decide), ?_⟩
  rw [nHS.refl]
  have kw : Kp N [] H2 _ := M12.kp.then k13
  exact q _ (bag2.keep kw (by simp) (by simp)) (k02.then kw.up)
theorem ok_l_turns_right (T : Txt K w mg N) : FnR Pw w K mg base CX0 13 N.l_turns_right (sp_l_turns_right K N) := by
  obtain ⟨fd, F, b⟩ := T.d_l_turns_right
  exact mk_fn F b sc_l_turns_right (fun vs H Q E h => by (repeat (first | (obtain ⟨rfl, _⟩ := h; rfl) | (obtain ⟨_, h⟩ := h)))) fun cdv A outer s H vs Q E hr h => ⟨t_l_turns_right K N, (PSs.nox (by exact (pss_cons (ps_asg (pe_tup (pa_cons (pe_op op_sub (pe_cl (ok_l_take T) (hr.mono (by decide)) rfl T.g_l_take T.k_l_take pass0 (pa_cons (pv 0) (pa_cons pe_int pa_nil))) pe_int) (pa_cons (pe_op op_add pe_int (pe_cl (ok_l_take T) (hr.mono (by decide)) rfl T.g_l_take T.k_l_take pass0 (pa_cons (pv 0) (pa_cons pe_int pa_nil)))) (pa_cons (pe_lst (pa_cons (StX.pe_makeR T.mk_Game (ok_Game_init T) (hr.mono (by decide)) rfl T.g_Game pass0 (pa_cons (pv 1) (pa_cons (pv 2) pa_nil))) (pa_cons (StX.pe_makeR T.mk_Game (ok_Game_init T) (hr.mono (by decide)) rfl T.g_Game pass0 (pa_cons (pv 1) (pa_cons (pv 2) pa_nil))) pa_nil))) pa_nil)))) (pg_tup rfl (pgs_cons (pg_name (i := 7) sc_l_turns_right.nd rfl (Or.inr rfl)) (pgs_cons (pg_name (i := 8) sc_l_turns_right.nd rfl (Or.inl rfl)) (pgs_cons (pg_name (i := 9) sc_l_turns_right.nd rfl (Or.inl rfl)) pgs_nil)))))
 (pss_cons (ps_for PassesOwn.never rfl (pi_list (pv 9)) (pg_name (i := 4) sc_l_turns_right.nd rfl (Or.inl rfl))
 (pss_one (ps_for PassesOwn.never rfl (pi_list (pv 3)) (pg_name (i := 10) sc_l_turns_right.nd rfl (Or.inl rfl))
 (pss_one (ps_expr (SlX.pe_methSl (pv 4) T.c_Game T.m_Game_do (ok_Game_do T) (hr.mono (by decide)) passL (pa_cons (pe_tup (pa_cons (pe_lit (l := [104, 111, 108, 100]) (by decide +kernel)) (pa_cons (pv 10) pa_nil))) pa_nil)))))))
 (pss_cons (ps_expr (SlX.pe_methSl (pe_ix ix_list (pv 9) pe_int (fun _ _ => rfl)) T.c_Game T.m_Game_do (ok_Game_do T) (hr.mono (by decide)) passL (pa_cons (pe_tup (pa_cons (pe_lit (l := [116, 117, 114, 110]) (by decide +kernel)) (pa_cons (pv 7) pa_nil))) pa_nil)))
 (pss_cons (ps_expr (SlX.pe_methSl (pe_ix ix_list (pv 9) pe_int (fun _ _ => rfl)) T.c_Game T.m_Game_do (ok_Game_do T) (hr.mono (by decide)) passL (pa_cons (pe_tup (pa_cons (pe_lit (l := [98, 101, 97, 116, 115]) (by decide +kernel)) (pa_cons (pv 8) pa_nil))) pa_nil)))
 (pss_cons (ps_expr (SlX.pe_methSl (pe_ix ix_list (pv 9) pe_int (fun _ _ => rfl)) T.c_Game T.m_Game_do (ok_Game_do T) (hr.mono (by decide)) passL (pa_cons (pe_tup (pa_cons (pe_lit (l := [98, 101, 97, 116, 115]) (by decide +kernel)) (pa_cons (pv 8) pa_nil))) pa_nil)))
 (pss_cons (ps_set (i := 5) sc_l_turns_right.nd rfl (Or.inl rfl) (SlX.pe_propSl (pe_ix ix_list (pv 9) pe_int (fun _ _ => rfl)) T.c_Game T.p_Game_text.at_ T.p_Game_text.get T.p_Game_text.tak T.p_Game_text.rec_ (ok_Game_text T) (hr.mono (by decide)) (fun _ _ _ _ z => z)))
 (pss_cons (ps_expr (SlX.pe_methSl (pe_ix ix_list (pv 9) pe_int (fun _ _ => rfl)) T.c_Game T.m_Game_do (ok_Game_do T) (hr.mono (by decide)) passL (pa_cons (pe_tup (pa_cons (pe_lit (l := [116, 117, 114, 110]) (by decide +kernel)) (pa_cons (pv 7) pa_nil))) pa_nil)))
 (pss_cons (ps_if (PW.pt (pw_or (pt_cmpR op_neX (SlX.pe_propSl (pe_ix ix_list (pv 9) pe_int (fun _ _ => rfl)) T.c_Game T.p_Game_text.at_ T.p_Game_text.get T.p_Game_text.tak T.p_Game_text.rec_ (ok_Game_text T) (hr.mono (by decide)) (fun _ _ _ _ z => z)) (SlX.pe_propSl (pe_ix ix_list (pv 9) pe_int (fun _ _ => rfl)) T.c_Game T.p_Game_text.at_ T.p_Game_text.get T.p_Game_text.tak T.p_Game_text.rec_ (ok_Game_text T) (hr.mono (by decide)) (fun _ _ _ _ z => z)) (nomark _)) (pw_or1 (pt_cmpR (op_neD hr.units) (SlX.pe_methSl0 (pe_ix ix_list (pv 9) pe_int (fun _ _ => rfl)) T.c_Game T.m_Game_held (ok_Game_held T) (hr.mono (by decide)) pass0) (SlX.pe_methSl0 (pe_ix ix_list (pv 9) pe_int (fun _ _ => rfl)) T.c_Game T.m_Game_held (ok_Game_held T) (hr.mono (by decide)) pass0) (nomark _))))) pss_never pss_nil)
 (pss_cons (ps_set (i := 6) sc_l_turns_right.nd rfl (Or.inl rfl) (pe_callB cr_sortedI rfl T.n_sorted bt_sorted (pa_cons (pe_lc (own := [(("_law_seat" : Str), 10)]) (g := (gName 10)) (tt := tYes) rfl sc_l_turns_right.nd (pi_list (pv 3)) (blkOk_by (N := nm_l_turns_right) (sc := defScope s_l_turns_right) (by decide +kernel)) (fun _ _ _ _ _ => (pg_name (i := 10) sc_l_turns_right.nd rfl (Or.inl rfl))) (fun _ _ _ _ _ => pts_nil) (fun _ _ _ _ _ => (pe_op op_mod (pe_callTy call_intI rfl T.n_int bt_int (pa_cons (pe_op op_add (pv 10) (pv 7)) pa_nil)) (pe_callB call_lenX rfl T.n_len bt_len (pa_cons (pv 2) pa_nil))))) pa_nil)))
 (pss_one (ps_ret (pe_and (pe_cmpR (op_ownNe T.ob_Game T.ne_Game T.eq_Game T.fn_Game_eq (ok_Game_eq T) (hr.mono (by decide)) pass0) (pe_ix ix_list (pv 9) pe_int (fun _ _ => rfl)) (pe_ix ix_list (pv 9) pe_int (fun _ _ => rfl)) (nomark _)) (pe_and (pe_cmpR op_eqX (SlX.pe_propSl (pe_ix ix_list (pv 9) pe_int (fun _ _ => rfl)) T.c_Game T.p_Game_text.at_ T.p_Game_text.get T.p_Game_text.tak T.p_Game_text.rec_ (ok_Game_text T) (hr.mono (by decide)) (fun _ _ _ _ z => z)) (pe_cl (ok_turned_by T) (hr.mono (by decide)) rfl T.g_turned_by T.k_turned_by pass0 (pa_cons (pv 5) (pa_cons (pv 7) pa_nil))) (nomark _)) (pe_one (pe_cmpR (op_eqD hr.units) (SlX.pe_methSl0 (pe_ix ix_list (pv 9) pe_int (fun _ _ => rfl)) T.c_Game T.m_Game_held (ok_Game_held T) (hr.mono (by decide)) pass0) (pv 6) (nomark _)))))))))))))))))), pure_l_turns_right T vs H Q E h⟩
end
end Sw
namespace Sw
open PySem PySem.Spec PyProof.Rows L2
open SX (S S_cat S_len S_inj)
open SlX (SlO SlR putS slH)
/-! # games that go apart -/
section
variable {K : PySem.W.Frag} {w : World} {mg : Str → Option Value} {N : Nm} {base : Heap}
/-- what H0 had stands in H' as it stood in H -/
def Old (H0 H H' : Hp) : Prop := ∀ x o, (∃ o', H0 x = some o') → H x = some o → H' x = some o
theorem Old.trans {H0 H H1 H2 : Hp} (a : Old H0 H H1) (b : Old H0 H1 H2) : Old H0 H H2 := fun x o h e => b x o h (a x o h e)
theorem Old.of {H0 H H1 : Hp} (k : Kp N [] H H1) : Old H0 H H1 := fun x o h e => k _ _ e (.inl (by simp))
theorem Old.put {H0 H H1 : Hp} {D : Addr} {o : HO} (a : Old H0 H H1) (hD : H0 D = none) : Old H0 H (upd H1 D o) := fun x u h e => by
  obtain ⟨o', e0⟩ := h
  rw [upd_ne (ne_of_none e0 hD)]
  exact a x u ⟨o', e0⟩ e
theorem BagAt.old {H0 H H' : Hp} {b cl : Addr} (h : BagAt H b cl) (hb : ∃ o, H0 b = some o) (hc : ∃ o, H0 cl = some o) (k : Old H0 H H') : BagAt H' b cl := by
  obtain ⟨x0, x1, x2, cs, e1, e2, r⟩ := h
  exact ⟨x0, x1, x2, cs, k _ _ hb e1, k _ _ hc e2, r⟩
/-- without the last game -/
theorem Gms.front {H0 H : Hp} {l : List Addr} {x : Addr × GS} {gs : List (Addr × GS)} {ks : List Cel} (M : Gms N H0 l H (gs ++ [x]) ks) : Gms N H0 l H gs ks := by
  obtain ⟨xs, M, e⟩ := M
  obtain ⟨ys, zs, rfl, e1, e2⟩ := List.map_eq_append_iff.mp e
  refine ⟨ys, ⟨M.kp, M.l0, fun x hx => M.at_ x (List.mem_append_left _ hx), fun x hx => M.new x (List.mem_append_left _ hx), fun i j x y n h1 h2 => M.sep i j x y n ?_ ?_, fun q hq => ?_⟩, e1⟩
  · rw [List.getElem?_append_left (List.getElem?_eq_some_iff.mp h1).1]; exact h1
  · rw [List.getElem?_append_left (List.getElem?_eq_some_iff.mp h2).1]; exact h2
  · obtain ⟨c1, c2, c3, c4, c5⟩ := M.cel q hq
    exact ⟨c1, c2, c3, fun x hx => c4 x (List.mem_append_left _ hx), c5⟩
/-- i deeds undone -/
def gU (tab : List Nat) (r : Nat) (t : List Nat) (lg gn : List Deed) (i : Nat) : GS := ⟨tab, r, t, (lg.reverse.drop i).reverse, gn ++ lg.reverse.take i⟩
theorem gU_0 {tab : List Nat} {r : Nat} {t : List Nat} {lg gn : List Deed} : gU tab r t lg gn 0 = ⟨tab, r, t, lg, gn⟩ := by
  unfold gU
  simp
theorem gU_ok {n r : Nat} {tab : List Nat} {t : List Nat} {lg gn : List Deed} (h : GsOk n r ⟨tab, r, t, lg, gn⟩) (i : Nat) : GsOk n r (gU tab r t lg gn i) := by
  refine ⟨h.rr, h.r2, h.tab, h.n0, h.n1, h.len, h.ok, fun d hd => h.log d ?_, fun d hd => ?_, ?_⟩
  · exact List.mem_reverse.mp (List.mem_of_mem_drop (List.mem_reverse.mp hd))
  · rcases List.mem_append.mp hd with z | z
    · exact h.gone d z
    · exact h.log d (List.mem_reverse.mp (List.mem_of_mem_take z))
  · have := h.sz
    simp [gU] at this ⊢
    omega
theorem gU_next {lg : List Deed} {i : Nat} {D : Deed} (h : lg.reverse[i]? = some D) : (lg.reverse.drop i).reverse = (lg.reverse.drop (i + 1)).reverse ++ [D] := by
  obtain ⟨hi, e⟩ := List.getElem?_eq_some_iff.mp h
  rw [List.drop_eq_getElem_cons hi, e, List.reverse_cons]
theorem gU_c {lg : List Deed} {c : Nat} (hc : c ≤ lg.length) : (lg.reverse.drop (lg.length - c)).reverse = lg.take c := by
  rw [List.drop_reverse, List.reverse_reverse]
  congr 1
  omega
theorem gU_u {lg : List Deed} {c : Nat} (hc : c ≤ lg.length) : (lg.reverse.take (lg.length - c)) = (lg.drop c).reverse := by
  rw [List.take_reverse]
  congr 2
  omega
theorem Gms.led {H0 H : Hp} {b cl p L U : Addr} {gs : List (Addr × GS)} {ks : List Cel} (M : Gms N H0 [b] H gs ks) {i n r many : Nat} {g : Addr} {G : GS} (hi : gs[i]? = some (g, G)) (bag : BagAt H b cl) (hcl : ∃ o, H0 cl = some o)
    (cL : ((L, fun H => LogAt H L G.log) : Cel) ∈ ks) (cU : ((U, fun H => LogAt H U G.gone) : Cel) ∈ ks) (hLU : L ≠ U) (ok : GsOk n r G) (ep : H p = some (.tup [.str (S G.tab), .int G.r])) (hm : many ≤ 100) (hsz : G.log.length + G.gone.length + many ≤ 150)
    (rest : List Cel) (hr : ∀ c ∈ rest, c ∈ ks ∧ c.1 ≠ L ∧ c.1 ≠ U) {Q : VK} {E : XK} {σ : L2.St} (q : ∀ H' lg gn, BagAt H' b cl → GsOk n r { G with log := lg, gone := gn } → lg.length + gn.length ≤ G.log.length + G.gone.length + many →
      Gms N H0 [b] H' (gs.set i (g, { G with log := lg, gone := gn })) ((L, fun H => LogAt H L lg) :: rest) → Q (.bl true) H') :
    tNil σ H fun xs H2 => sp_l_led K N (V.ref b :: V.ref g :: V.ref p :: V.str (S G.t) :: V.ref L :: V.ref U :: V.int (many : Nat) :: xs) H2 Q E := by
  obtain ⟨own, ga, nb, nk, nw, f⟩ := M.step hi
  have hb0 : ∃ o, H0 b = some o := by
    obtain ⟨xs, M, rfl⟩ := M
    exact (M.l0 b (by simp)).1
  obtain ⟨ob, hb0⟩ := hb0
  obtain ⟨oc, hcl⟩ := hcl
  have nL := (M.cel0 _ cL).1
  have nU := (M.cel0 _ cU).1
  refine ⟨b, cl, g, p, L, U, own, G, n, r, many, rfl, bag, ga, ok, ep, M.cel L _ cL, M.cel U _ cU, hLU, ?_, ?_, ?_, hm, hsz, fun H' own' lg gn D => q H' lg gn D.bag D.ok D.sz (f [b, L, U] H' own' _ _ D.ga D.kp D.gr ?_ ?_ ?_)⟩
  · intro x hx
    simp only [List.mem_cons, List.not_mem_nil, or_false] at hx
    rcases hx with rfl | rfl | rfl | rfl
    · exact nb _ (by simp)
    · intro z
      have := nw _ z
      rw [hcl] at this; cases this
    · exact nk _ cL
    · exact nk _ cU
  · intro z
    rw [z, show H0 L = none from nL] at hcl; cases hcl
  · intro z
    rw [z, show H0 U = none from nU] at hcl; cases hcl
  · intro x hx
    simp only [List.mem_cons, List.not_mem_nil, or_false] at hx
    rcases hx with rfl | rfl | rfl
    · exact .inl (by simp)
    · exact .inr ⟨_, cL, rfl⟩
    · exact .inr ⟨_, cU, rfl⟩
  · intro x hx
    rw [List.mem_singleton.mp hx]
    exact D.bag.dom.1
  · intro c hc
    rcases List.mem_cons.mp hc with rfl | hc
    · refine .inr ⟨⟨_, cL, rfl⟩, D.la, ?_, stab_log⟩
      obtain ⟨_, e, _⟩ := D.la
      exact ⟨_, e⟩
    · obtain ⟨h1, h2, h3⟩ := hr c hc
      refine .inl ⟨h1, ?_⟩
      simp only [List.mem_cons, List.not_mem_nil, or_false, not_or]
      refine ⟨fun z => ?_, h2, h3⟩
      have := (M.cel0 _ h1).1
      rw [z, hb0] at this; cases this
/-- game.past(k) -/
theorem past_of {H0 H : Hp} {l : List Addr} {gs : List (Addr × GS)} {ks : List Cel} (M : Gms N H0 l H gs ks) {i n r k : Nat} {g : Addr} {G : GS} (hi : gs[i]? = some (g, G)) (ok : GsOk n r G) (hk : k ≤ G.log.length) {Q : VK} {E : XK} {σ : L2.St}
    (q : ∀ H' f, Gms N H0 l H' (gs ++ [(f, { G with log := G.log.take k, gone := [] })]) ks → Kp N [] H H' → Q (.ref f) H') : tNil σ H fun xs H2 => sp_Game_past K N (V.ref g :: V.int (k : Nat) :: xs) H2 Q E := by
  obtain ⟨own, ga⟩ := M.game hi
  exact ⟨g, own, G, n, r, k, rfl, ga, ok, hk, fun H' f own' ga' kk fr => q H' f (M.push ga' kk fr) kk⟩
theorem copied_of {H0 H : Hp} {l : List Addr} {gs : List (Addr × GS)} {ks : List Cel} (M : Gms N H0 l H gs ks) {i n r : Nat} {g : Addr} {G : GS} (hi : gs[i]? = some (g, G)) (ok : GsOk n r G) {Q : VK} {E : XK} {σ : L2.St}
    (q : ∀ H' f, Gms N H0 l H' (gs ++ [(f, G)]) ks → Kp N [] H H' → Q (.ref f) H') : tNil σ H fun xs H2 => sp_Game_copied K N (V.ref g :: xs) H2 Q E := by
  obtain ⟨own, ga⟩ := M.game hi
  exact ⟨g, own, G, n, r, rfl, ga, ok, fun H' f own' ga' kk fr => q H' f (M.push ga' kk fr) kk⟩
theorem undo_of {H0 H : Hp} {l : List Addr} {gs : List (Addr × GS)} {ks : List Cel} (M : Gms N H0 l H gs ks) {i n r : Nat} {g : Addr} {G : GS} (hi : gs[i]? = some (g, G)) (ok : GsOk n r G) {ds : List Deed} {D : Deed} (e : G.log = ds ++ [D]) {Q : VK} {E : XK} {σ : L2.St}
    (q : ∀ H' d, Gms N H0 l H' (gs.set i (g, { G with log := ds, gone := G.gone ++ [D] })) ks → H' d = some (.tup (dV D)) → Old H0 H H' → (∃ l', Kp N l' H H') → Q (.ref d) H') : tNil σ H fun xs H2 => sp_Game_undo K N (V.ref g :: xs) H2 Q E := by
  obtain ⟨own, ga, nw, f⟩ := M.step0 hi
  refine ⟨g, own, G, n, r, rfl, ga, ok, fun z => ?_, fun l' D' e' H' own' d ga' k gr ed => ?_⟩
  · rw [z] at e; simp at e
  · rw [e] at e'
    obtain ⟨rfl, e2⟩ := List.append_inj' e' rfl
    cases e2
    exact q H' d (f H' own' _ ga' k gr) (k _ _ ed (.inr Prm.tup)) (fun x o ⟨o', e0⟩ e => k _ _ e (.inl fun z => by rw [nw x z] at e0; cases e0)) ⟨_, k⟩
theorem redo_of {H0 H : Hp} {l : List Addr} {gs : List (Addr × GS)} {ks : List Cel} (M : Gms N H0 l H gs ks) {i n r : Nat} {g : Addr} {G : GS} (hi : gs[i]? = some (g, G)) (ok : GsOk n r G) {ds : List Deed} {D : Deed} (e : G.gone = ds ++ [D]) {Q : VK} {E : XK} {σ : L2.St}
    (q : ∀ H' d, Gms N H0 l H' (gs.set i (g, { G with log := G.log ++ [D], gone := ds })) ks → H' d = some (.tup (dV D)) → Old H0 H H' → (∃ l', Kp N l' H H') → Q (.ref d) H') : tNil σ H fun xs H2 => sp_Game_redo K N (V.ref g :: xs) H2 Q E := by
  obtain ⟨own, ga, nw, f⟩ := M.step0 hi
  refine ⟨g, own, G, n, r, rfl, ga, ok, fun z => ?_, fun l' D' e' H' own' d ga' k gr ed => ?_⟩
  · rw [z] at e; simp at e
  · rw [e] at e'
    obtain ⟨rfl, e2⟩ := List.append_inj' e' rfl
    cases e2
    exact q H' d (f H' own' _ ga' k gr) (k _ _ ed (.inr Prm.tup)) (fun x o ⟨o', e0⟩ e => k _ _ e (.inl fun z => by rw [nw x z] at e0; cases e0)) ⟨_, k⟩
/-- behind i turns of the first loop -/
def ApSt (N : Nm) (H : Hp) (b A8 A9 l0 l1 L c0 c1 : Addr) (tab : List Nat) (r : Nat) (t : List Nat) (lg gn : List Deed) (n : Nat) : Nat → Hp → Prop
  | 0, H' => Gms N H [b] H' [(c0, ⟨tab, r, t, lg, gn⟩), (c1, ⟨tab, r, t, lg, gn⟩)] [(A8, fun H => H A8 = some (.lst [.ref c0, .ref c1])), (A9, fun H => H A9 = some (.lst [.ref l0, .ref l1])), (l0, fun H => LogAt H l0 lg), (l1, fun H => LogAt H l1 lg), (L, fun H => LogAt H L lg)]
  | 1, H' => ∃ s0 lg0 gn0, GsOk n r ⟨tab, r, t, lg0, gn0⟩ ∧ lg0.length + gn0.length ≤ 10 ∧
    Gms N H [b] H' [(c1, ⟨tab, r, t, lg, gn⟩), (s0, ⟨tab, r, t, lg0, gn0⟩)] [(A8, fun H => H A8 = some (.lst [.ref s0, .ref c1])), (A9, fun H => H A9 = some (.lst [.ref l0, .ref l1])), (l0, fun H => LogAt H l0 lg0), (l1, fun H => LogAt H l1 lg), (L, fun H => LogAt H L lg)]
  | _, H' => ∃ s0 lg0 gn0 s1 lg1 gn1, GsOk n r ⟨tab, r, t, lg0, gn0⟩ ∧ lg0.length + gn0.length ≤ 10 ∧ GsOk n r ⟨tab, r, t, lg1, gn1⟩ ∧ lg1.length + gn1.length ≤ 10 ∧
    Gms N H [b] H' [(s0, ⟨tab, r, t, lg0, gn0⟩), (s1, ⟨tab, r, t, lg1, gn1⟩)] [(A8, fun H => H A8 = some (.lst [.ref s0, .ref s1])), (A9, fun H => H A9 = some (.lst [.ref l0, .ref l1])), (l0, fun H => LogAt H l0 lg0), (l1, fun H => LogAt H l1 lg1)]
theorem mem0 {α : Type} {a : α} {l : List α} : a ∈ a :: l := List.mem_cons_self
theorem mem1 {α : Type} {a b : α} {l : List α} : b ∈ a :: b :: l := List.mem_cons_of_mem _ mem0
theorem mem2 {α : Type} {a b c : α} {l : List α} : c ∈ a :: b :: c :: l := List.mem_cons_of_mem _ mem1
theorem mem3 {α : Type} {a b c d : α} {l : List α} : d ∈ a :: b :: c :: d :: l := List.mem_cons_of_mem _ mem2
theorem mem4 {α : Type} {a b c d e : α} {l : List α} : e ∈ a :: b :: c :: d :: e :: l := List.mem_cons_of_mem _ mem3
theorem mem5 {α : Type} {a b c d e f : α} {l : List α} : f ∈ a :: b :: c :: d :: e :: f :: l := List.mem_cons_of_mem _ mem4
theorem Gms.bagged {H0 H H' : Hp} {b cl : Addr} {gs : List (Addr × GS)} {ks : List Cel} (M : Gms N H0 [b] H gs ks) (k : Kp N [b] H H') (bag : BagAt H' b cl) : Gms N H0 [b] H' gs ks := by
  refine M.wr k (fun x hx => .inl hx) (fun x hx => by rw [List.mem_singleton.mp hx]; exact bag.dom.1) fun c hc => .inl ⟨hc, fun z => ?_⟩
  have h0 := (M.cel0 c hc).1
  obtain ⟨xs, M, rfl⟩ := M
  obtain ⟨⟨o, e⟩, _⟩ := M.l0 b (by simp)
  rw [List.mem_singleton.mp z, e] at h0
  cases h0
theorem Gms.ne {H0 H : Hp} {l : List Addr} {gs : List (Addr × GS)} {ks : List Cel} (M : Gms N H0 l H gs ks) (c : Cel) (hc : c ∈ ks) {a : Addr} (ha : H a = none) : c.1 ≠ a := by
  obtain ⟨_, o, e⟩ := M.cel0 c hc
  exact ne_of_none e ha
theorem atI_nat {α : Type} {xs : List α} {i : Nat} : atI xs (0 + (i : Int)) = xs[i]? := by
  unfold atI ixN
  rw [if_pos (by omega)]
  by_cases c : i < xs.length
  · rw [if_pos (by omega), Option.bind_some]
    congr 1
    omega
  · rw [if_neg (by omega), List.getElem?_eq_none (by omega)]
    rfl
theorem atI_sub {α : Type} {xs : List α} {i : Nat} (h : i < 2) : atI xs (1 - (0 + (i : Int))) = xs[1 - i]? := by
  rw [show (1 - (0 + (i : Int))) = 0 + ((1 - i : Nat) : Int) by omega, atI_nat]
/-- the one and the other -/
theorem duo {s0 s1 A8 A9 l0 l1 : Addr} {tab : List Nat} {n r : Nat} {t : List Nat} {lg0 gn0 lg1 gn1 : List Deed} {c : Nat} (okA : GsOk n r ⟨tab, r, t, lg0, gn0⟩) (okB : GsOk n r ⟨tab, r, t, lg1, gn1⟩) (szA : lg0.length + gn0.length ≤ 10) (szB : lg1.length + gn1.length ≤ 10)
    (hA : c ≤ lg0.length) (hB : c ≤ lg1.length) (hc : lg0.take c = lg1.take c) {i : Nat} (hi : i < 2) :
    ∃ sk so lk lgk gnk lgo gno, [(s0, (⟨tab, r, t, lg0, gn0⟩ : GS)), (s1, ⟨tab, r, t, lg1, gn1⟩)][i]? = some (sk, ⟨tab, r, t, lgk, gnk⟩) ∧ [(s0, (⟨tab, r, t, lg0, gn0⟩ : GS)), (s1, ⟨tab, r, t, lg1, gn1⟩)][1 - i]? = some (so, ⟨tab, r, t, lgo, gno⟩) ∧
      [V.ref s0, .ref s1][i]? = some (.ref sk) ∧ [V.ref s0, .ref s1][1 - i]? = some (.ref so) ∧ [V.ref l0, .ref l1][i]? = some (.ref lk) ∧
      ((lk, fun H => LogAt H lk lgk) : Cel) ∈ [((A8, fun H => H A8 = some (.lst [.ref s0, .ref s1])) : Cel), (A9, fun H => H A9 = some (.lst [.ref l0, .ref l1])), (l0, fun H => LogAt H l0 lg0), (l1, fun H => LogAt H l1 lg1)] ∧
      GsOk n r ⟨tab, r, t, lgk, gnk⟩ ∧ GsOk n r ⟨tab, r, t, lgo, gno⟩ ∧ lgk.length + gnk.length ≤ 10 ∧ c ≤ lgk.length ∧ c ≤ lgo.length ∧ lgk.take c = lgo.take c := by
  have : i = 0 ∨ i = 1 := by omega
  rcases this with rfl | rfl
  · exact ⟨s0, s1, l0, lg0, gn0, lg1, gn1, rfl, rfl, rfl, rfl, rfl, mem2, okA, okB, szA, hA, hB, hc⟩
  · exact ⟨s1, s0, l1, lg1, gn1, lg0, gn0, rfl, rfl, rfl, rfl, rfl, mem3, okB, okA, szB, hB, hA, hc.symm⟩
/-- a comprehension's new list beside it -/
theorem Gms.addc {H0 H : Hp} {l : List Addr} {gs : List (Addr × GS)} {ks : List Cel} {D : Addr} {acc : List V} {o : HO} (M : Gms N H0 l H gs ((D, fun H => H D = some (.lst acc)) :: ks)) (hl : D ∉ l) (hk : ∀ c ∈ ks, c.1 ≠ D) : Gms N H0 l (upd H D o) gs ((D, fun H => H D = some o) :: ks) := by
  have e := M.cel D _ List.mem_cons_self
  have hc : ∃ p ∈ ((D, fun H => H D = some (.lst acc)) : Cel) :: ks, p.1 = D := ⟨_, List.mem_cons_self, rfl⟩
  refine M.wr (m := [D]) (Kp.refl.lst e (.inl (by simp))) (fun x hx => .inr ?_) (fun x hx => ?_) fun q hq => ?_
  · rw [List.mem_singleton.mp hx]; exact hc
  · have hd : ∃ o, H x = some o := by
      obtain ⟨xs, M, rfl⟩ := M
      exact (M.l0 x hx).2
    obtain ⟨u, e⟩ := hd
    exact ⟨u, (upd_ne (fun z : x = D => hl (by rw [← z]; exact hx))).trans e⟩
  · rcases List.mem_cons.mp hq with rfl | hq
    · exact .inr ⟨hc, upd_same, ⟨_, upd_same⟩, stab_cell⟩
    · exact .inl ⟨List.mem_cons_of_mem _ hq, by simp [hk q hq]⟩
def sp_l_apart_right (K : PySem.W.Frag) (N : Nm) : Sp := fun vs H Q E => ∃ (b cl p : Addr) (tab : List Nat) (r : Nat) (t : List Nat), vs = [.ref b, .ref p, .str (S t)] ∧ BagAt H b cl ∧ H p = some (.tup [.str (S tab), .int r]) ∧ OkTab tab ∧ r ≤ 2 ∧ t ≠ [] ∧ t.length ≤ 100 ∧ OkT r t ∧
  ∀ H', BagAt H' b cl → Kp N [b] H H' → Q (.bl true) H'
def t_l_apart_right (K : PySem.W.Frag) (N : Nm) : TS :=
 (tSeq (tPar 6 7 (tCons (StX.tMakeR N.Game (sp_Game_init K N) E0 (tCons (tCl (sp_l_made_rule K N) E0 (tCons (tVar 1) tNil)) (tCons (tVar 2) tNil))) (tCons (tLst tNil) tNil)))
 (tSeq (tIfS (tNot (tB (tCl (sp_l_led K N) E0 (tCons (tVar 0) (tCons (tVar 6) (tCons (tVar 1) (tCons (tVar 2) (tCons (tVar 7) (tCons (tLst tNil) (tCons (tCl (sp_l_take K N) E0 (tCons (tVar 0) (tCons (tC (.int 5)) tNil))) tNil))))))))))
 tNever tNext)
 (tSeq (tAsg (tTup (tCons (tLst (tCons (SlX.tMethSl N.Game (sp_Game_copied K N) E0 (tVar 6) tNil) (tCons (SlX.tMethSl N.Game (sp_Game_copied K N) E0 (tVar 6) tNil) tNil))) (tCons (tLst (tCons (tCB (rListQ K) (tCons (tVar 7) tNil)) (tCons (tCB (rListQ K) (tCons (tVar 7) tNil)) tNil))) tNil))) (gTup K 2 (gCons (gName 8) (gCons (gName 9) gNil))))
 (tSeq (tFor (iRng1 (tCons (tC (.int 2)) tNil)) (gName 3)
 ((tSeq (tAsg (SlX.tMethSl N.Game (sp_Game_past K N) E0 (tOp (rIxL K) (tVar 8) (tVar 3)) (tCons (tCB (rLenQ K) (tCons (tVar 7) tNil)) tNil)) (gName 10))
 (tSeq (tIfS (tNot (tB (tCl (sp_l_led K N) E0 (tCons (tVar 0) (tCons (tVar 10) (tCons (tVar 1) (tCons (tVar 2) (tCons (tOp (rIxL K) (tVar 9) (tVar 3)) (tCons (tLst tNil) (tCons (tOp rAddI (tC (.int 1)) (tCl (sp_l_take K N) E0 (tCons (tVar 0) (tCons (tC (.int 4)) tNil)))) tNil))))))))))
 tNever tNext)
 (tAsg (tVar 10) (gSub (tVar 8) (tVar 3) rSetL))))))
 (tSeq (tAsg (tCB rMin2 (tCons (tCB (rLenQ K) (tCons (tOp (rIxL K) (tVar 9) (tC (.int 0))) tNil)) (tCons (tCB (rLenQ K) (tCons (tOp (rIxL K) (tVar 9) (tC (.int 1))) tNil)) tNil))) (gName 4))
 (tSeq (tAsg (tCB (rLenQ K) (tCons (tLc (iRng1 (tCons (tVar 4) tNil)) (gName 3) (tTest (tOp (rEqD K) (L2.tSl (rSlL K) (tOp (rIxL K) (tVar 9) (tC (.int 0))) tNoPart (tPart (tOp rAddI (tVar 3) (tC (.int 1))))) (L2.tSl (rSlL K) (tOp (rIxL K) (tVar 9) (tC (.int 1))) tNoPart (tPart (tOp rAddI (tVar 3) (tC (.int 1))))))) (tVar 3) [3]) tNil)) (gName 5))
 (tSeq (tFor (iRng1 (tCons (tC (.int 2)) tNil)) (gName 3)
 ((tSeq (tAsg (tLc (iList K (L2.tSl (rSlL K) (tOp (rIxL K) (tVar 9) (tVar 3)) (tPart (tVar 5)) tNoPart)) (gName 12) tYes (SlX.tMethSl N.Game (sp_Game_undo K N) E0 (tOp (rIxL K) (tVar 8) (tVar 3)) tNil) [12]) (gName 11))
 (tSeq (tIfS (tOr (tTest (tOp (rNeD K) (tVar 11) (tRevL K (L2.tSl (rSlL K) (tOp (rIxL K) (tVar 9) (tVar 3)) (tPart (tVar 5)) tNoPart)))) (tTest (tOp (rOwnNe K N.Game (sp_Game_eq K N) E0) (tOp (rIxL K) (tVar 8) (tVar 3)) (SlX.tMethSl N.Game (sp_Game_past K N) E0 (tOp (rIxL K) (tVar 8) (tOp rSubI (tC (.int 1)) (tVar 3))) (tCons (tVar 5) tNil)))))
 tNever tNext)
 (tSeq (tIfS (tTest (tOp (rNeD K) (tLc (iList K (tVar 11)) (gName 12) tYes (SlX.tMethSl N.Game (sp_Game_redo K N) E0 (tOp (rIxL K) (tVar 8) (tVar 3)) tNil) [12]) (tRevL K (tVar 11))))
 tNever tNext)
 (tIfS (tNot (tB (tCl (sp_l_stands_so K N) E0 (tCons (tOp (rIxL K) (tVar 8) (tVar 3)) (tCons (tVar 1) (tCons (tVar 2) (tCons (tOp (rIxL K) (tVar 9) (tVar 3)) tNil)))))))
 tNever tNext))))))
 (tRet (tOp rEq (tOp (SlX.rOwn K N.Game (sp_Game_eq K N) E0) (tOp (rIxL K) (tVar 8) (tC (.int 0))) (tOp (rIxL K) (tVar 8) (tC (.int 1)))) (tOp (rEqD K) (tOp (rIxL K) (tVar 9) (tC (.int 0))) (tOp (rIxL K) (tVar 9) (tC (.int 1)))))))))))))
theorem pure_l_apart_right (T : Txt K w mg N) (vs : List V) (H : Hp) (Q : VK) (E : XK) (h : sp_l_apart_right K N vs H Q E) : t_l_apart_right K N (Eo Q) (start nm_l_apart_right vs) H := by
  obtain ⟨b, cl, p, tab, r, t, rfl, bag, ep, ht, hr, hne, hlt, okt, q⟩ := h
  obtain ⟨⟨ob, eb0⟩, hcl⟩ := bag.dom
  have M0 : Gms N H [b] H [] [] := Gms.nil fun x hx => by rw [List.mem_singleton.mp hx]; exact ⟨_, eb0⟩
  have ok0 : GsOk t.length r ⟨tab, r, t, [], []⟩ := ⟨rfl, hr, ht, by have := List.length_pos_iff.mpr hne; show 1 ≤ t.length; omega, hlt, rfl, okt, by simp, by simp, by simp⟩
  -- the game
  refine ⟨_, rfl, p, tab, r, rfl, ep, ht, hr, fun ra H1 rat k1 => ?_⟩
  refine ⟨_, rfl, fun g dx f1 f2 f3 => mk_game (M0.same k1) rat hr hne hlt okt f1 f2 f3 fun H2 M2 k2 => ⟨rfl, by show 0 ≤ sizeLine; decide, fun L hL => ⟨_, _, rfl, ?_⟩⟩⟩
  clear f1 f2 f3
  have eL : LogAt (upd H2 L (.lst [])) L [] := ⟨[], upd_same, .nil⟩
  have M3 := M2.reg (Kp.refl.new hL (o := .lst [])) (L, fun H => LogAt H L []) hL eL ⟨_, upd_same⟩ stab_log
  have bag3 := bag_new (o := .lst []) (bag.keep (k1.then k2) (by simp) (by simp)) hL
  clear M2 k1 k2 rat eL hL
  generalize upd H2 L (.lst []) = H3 at *
  -- led
  refine ⟨_, rfl, _, rfl, _, rfl, _, rfl, _, rfl, by show 0 ≤ sizeLine; decide, fun U hU => ?_⟩
  have eU : LogAt (upd H3 U (.lst [])) U [] := ⟨[], upd_same, .nil⟩
  have hLU : L ≠ U := by
    obtain ⟨_, e⟩ := (M3.cel0 _ List.mem_cons_self).2
    exact ne_of_none e hU
  have M4 := M3.reg (Kp.refl.new hU (o := .lst [])) (U, fun H => LogAt H U []) hU eU ⟨_, upd_same⟩ stab_log
  have bag4 := bag_new (o := .lst []) bag3 hU
  generalize upd H3 U (.lst []) = H4 at *
  refine ⟨_, rfl, b, cl, 5, rfl, bag4, by decide, by decide, fun j H5 hj bag5 k5 => ?_⟩
  have M5 := M4.bagged k5 bag5
  clear M3 M4 bag3 bag4 k5 eU hU
  refine Gms.led M5 (i := 0) (cl := cl) rfl bag5 hcl (L := L) (U := U) (List.mem_cons_of_mem _ List.mem_cons_self) List.mem_cons_self hLU ok0 (M5.kp _ _ ep (.inr Prm.tup)) (by omega) (by simp; omega) [] (by simp) fun H6 lg gn bag6 ok6 hsz6 M6 => ⟨_, rfl, if_f rfl ?_⟩
  have hsz : lg.length + gn.length ≤ 4 := by simp at hsz6; omega
  clear M5 bag5 hsz6
  -- two of it
  obtain ⟨dx, ws, slt⟩ := M6.slt (i := 0) rfl
  refine ⟨_, rfl, g, dx, ws, rfl, slt, copied_of M6 (i := 0) rfl ok6 fun H7 c0 M7 k7 => ?_⟩
  clear slt
  obtain ⟨dx, ws, slt⟩ := M7.slt (i := 0) rfl
  refine ⟨_, rfl, g, dx, ws, rfl, slt, copied_of M7 (i := 0) rfl ok6 fun H8 c1 M8 k8 => ⟨by show 2 ≤ sizeLine; decide, fun A8 hA8 => ?_⟩⟩
  have M9 := (M8.cell hA8 (o := .lst [.ref c0, .ref c1])).tail
  have bag9 := bag_new (o := .lst [.ref c0, .ref c1]) (bag6.keep (k7.then k8) (by simp) (by simp)) hA8
  have dL8 := M8.ne _ mem0 hA8
  clear slt M6 M7 M8 k7 k8 bag6
  generalize upd H8 A8 (.lst [.ref c0, .ref c1]) = H9 at *
  obtain ⟨lv, eL, ld⟩ := M9.cel L (fun H => LogAt H L lg) mem1
  refine ⟨_, rfl, L, lv, rfl, .inl (.of eL), fun l0 hl0 => ?_⟩
  have M10 := M9.reg (Kp.refl.new hl0 (o := .lst lv)) (l0, fun H => LogAt H l0 lg) hl0 ⟨lv, upd_same, ld.keep (Kp.refl.new (N := N) (l := []) hl0)⟩ ⟨_, upd_same⟩ stab_log
  have bag10 := bag_new (o := .lst lv) bag9 hl0
  have d80 : A8 ≠ l0 := M9.ne _ mem0 hl0
  have dL0 : L ≠ l0 := M9.ne _ mem1 hl0
  clear eL ld
  generalize upd H9 l0 (.lst lv) = H10 at *
  obtain ⟨lv, eL, ld⟩ := M10.cel L (fun H => LogAt H L lg) mem2
  refine ⟨_, rfl, L, lv, rfl, .inl (.of eL), fun l1 hl1 => ⟨by show 2 ≤ sizeLine; decide, fun A9 hA9 => ⟨by show 2 ≤ sizeLine; decide, fun tp htp => ?_⟩⟩⟩
  have M11 := M10.reg (Kp.refl.new hl1 (o := .lst lv)) (l1, fun H => LogAt H l1 lg) hl1 ⟨lv, upd_same, ld.keep (Kp.refl.new (N := N) (l := []) hl1)⟩ ⟨_, upd_same⟩ stab_log
  have d81 : A8 ≠ l1 := M10.ne _ mem1 hl1
  have dL1 : L ≠ l1 := M10.ne _ mem2 hl1
  have d01 : l0 ≠ l1 := M10.ne _ mem0 hl1
  have M12 := M11.cell hA9 (o := .lst [.ref l0, .ref l1])
  have d89 : A8 ≠ A9 := M11.ne _ mem2 hA9
  have dL9 : L ≠ A9 := M11.ne _ mem3 hA9
  have d90 : A9 ≠ l0 := Ne.symm (M11.ne _ mem1 hA9)
  have d91 : A9 ≠ l1 := Ne.symm (M11.ne _ mem0 hA9)
  have M13 := M12.same (Kp.refl.new htp (o := .tup [.ref A8, .ref A9]))
  have bag13 := bag_new (o := .tup [.ref A8, .ref A9]) (bag_new (o := .lst [.ref l0, .ref l1]) (bag_new (o := .lst lv) bag10 hl1) hA9) htp
  refine ⟨tp, _, rfl, .of upd_same, rfl, _, _, rfl, _, _, rfl, rfl, ?_⟩
  generalize upd (upd (upd H10 l1 (.lst lv)) A9 (.lst [.ref l0, .ref l1])) tp (.tup [.ref A8, .ref A9]) = H13 at *
  have bA8 : b ≠ A8 := fun z => by
    have := (M13.cel0 _ mem3).1
    rw [← z, eb0] at this; cases this
  have clA8 : cl ≠ A8 := fun z => by
    obtain ⟨_, e⟩ := hcl
    have := (M13.cel0 _ mem3).1
    rw [← z, e] at this; cases this
  have M14 : ApSt N H b A8 A9 l0 l1 L c0 c1 tab r t lg gn t.length 0 H13 := Gms.sub M13 fun c hc => by
    simp only [List.mem_cons, List.not_mem_nil, or_false] at hc
    rcases hc with rfl | rfl | rfl | rfl | rfl
    · exact mem3
    · exact mem0
    · exact mem2
    · exact mem1
    · exact mem4
  clear M9 M10 M11 M12 M13 bag9 bag10 eL ld hl0 hl1 hA9 htp hA8
  have okP : GsOk t.length r ⟨tab, r, t, lg, []⟩ := ⟨ok6.rr, ok6.r2, ok6.tab, ok6.n0, ok6.n1, ok6.len, ok6.ok, ok6.log, by simp, by simp; omega⟩
  refine ⟨2, rfl, by decide, by decide, ?_⟩
  refine for_range (fun i σ H' => ∃ v3 v10, σ = [some (.ref b), some (.ref p), some (.str (S t)), v3, none, none, some (.ref g), some (.ref L), some (.ref A8), some (.ref A9), v10, none, none] ∧ BagAt H' b cl ∧ ApSt N H b A8 A9 l0 l1 L c0 c1 tab r t lg gn t.length i H') ⟨none, none, rfl, bag13, M14⟩ ?_ ?_
  · rintro i σ H14 hi ⟨v3, v10, rfl, bag14, S14⟩
    have hi2 : i = 0 ∨ i = 1 := by have : i < 2 := hi; omega
    rcases hi2 with rfl | rfl
    · have M14 : ApSt N H b A8 A9 l0 l1 L c0 c1 tab r t lg gn t.length 0 H14 := S14
      obtain ⟨dx, ws, slt⟩ := Gms.slt M14 (i := 0) rfl
      have eA8 := Gms.cel M14 A8 (fun H => H A8 = some (.lst [.ref c0, .ref c1])) mem0
      obtain ⟨lv, eL, ld⟩ := Gms.cel M14 L (fun H => LogAt H L lg) mem4
      refine ⟨_, rfl, _, rfl, A8, _, _, _, rfl, rfl, .of eA8, rfl, c0, dx, ws, rfl, slt, _, rfl, L, lv, rfl, .inl (.of eL), ?_⟩
      rw [ld.length]
      refine past_of M14 (i := 0) (k := lg.length) rfl ok6 (Nat.le_refl _) fun H15 f M15 k15 => ?_
      rw [List.take_length] at M15
      have bag15 := bag14.keep k15 (by simp) (by simp)
      have eA9 := Gms.cel M15 A9 (fun H => H A9 = some (.lst [.ref l0, .ref l1])) mem1
      refine ⟨_, rfl, _, rfl, _, rfl, _, rfl, _, rfl, _, rfl, A9, _, _, _, rfl, rfl, .of eA9, rfl, by show 0 ≤ sizeLine; decide, fun U hU => ?_⟩
      have eU : LogAt (upd H15 U (.lst [])) U [] := ⟨[], upd_same, .nil⟩
      have M16 := M15.reg (Kp.refl.new hU (o := .lst [])) (U, fun H => LogAt H U []) hU eU ⟨_, upd_same⟩ stab_log
      have bag16 := bag_new (o := .lst []) bag15 hU
      generalize upd H15 U (.lst []) = H16 at *
      refine ⟨_, rfl, b, cl, 4, rfl, bag16, by decide, by decide, fun j H17 hj bag17 k17 => ⟨_, _, rfl, rfl, ?_⟩⟩
      have M17 := M16.bagged k17 bag17
      refine Gms.led (many := 1 + j) M17 (i := 2) (G := ⟨tab, r, t, lg, []⟩) rfl bag17 hcl (L := l0) (U := U) mem3 mem0 (M15.ne _ mem2 hU) okP (M17.kp _ _ ep (.inr Prm.tup)) (by omega) (by simp; omega) [(A8, fun H => H A8 = some (.lst [.ref c0, .ref c1])), (A9, fun H => H A9 = some (.lst [.ref l0, .ref l1])), (l1, fun H => LogAt H l1 lg), (L, fun H => LogAt H L lg)] (fun c hc => ?_) fun H18 lgN gnN bag18 ok18 hsz18 M18 => ⟨_, rfl, if_f rfl ?_⟩
      · show _ ∧ c.1 ≠ l0 ∧ c.1 ≠ U
        simp only [List.mem_cons, List.not_mem_nil, or_false] at hc
        rcases hc with rfl | rfl | rfl | rfl
        · exact ⟨mem1, d80, M15.ne _ mem0 hU⟩
        · exact ⟨mem2, d90, M15.ne _ mem1 hU⟩
        · exact ⟨mem4, Ne.symm d01, M15.ne _ mem3 hU⟩
        · exact ⟨mem5, dL0, M15.ne _ mem4 hU⟩
      have eA8' := Gms.cel M18 A8 (fun H => H A8 = some (.lst [.ref c0, .ref c1])) mem1
      refine ⟨_, rfl, _, rfl, _, rfl, A8, _, _, 0, rfl, rfl, eA8', rfl, ?_⟩
      have kA : Kp N [A8] H18 (upd H18 A8 (.lst [.ref f, .ref c1])) := Kp.refl.lst eA8' (.inl (by simp))
      have M19 := M18.wr (ks' := [(A8, fun H => H A8 = some (.lst [.ref f, .ref c1])), (A9, fun H => H A9 = some (.lst [.ref l0, .ref l1])), (l0, fun H => LogAt H l0 lgN), (l1, fun H => LogAt H l1 lg), (L, fun H => LogAt H L lg)]) kA (fun x hx => .inr ⟨_, mem1, (List.mem_singleton.mp hx).symm⟩) (fun x hx => by
        rw [List.mem_singleton.mp hx]
        exact (bag18.keep kA (by simp [bA8]) (by simp [clA8])).dom.1) (fun c hc => by
        simp only [List.mem_cons, List.not_mem_nil, or_false] at hc
        rcases hc with rfl | rfl | rfl | rfl | rfl
        · exact .inr ⟨⟨_, mem1, rfl⟩, upd_same, ⟨_, upd_same⟩, stab_cell⟩
        · exact .inl ⟨mem2, by simp [Ne.symm d89]⟩
        · exact .inl ⟨mem0, by simp [Ne.symm d80]⟩
        · exact .inl ⟨mem3, by simp [Ne.symm d81]⟩
        · exact .inl ⟨mem4, by simp [dL8]⟩)
      exact ⟨_, _, rfl, bag18.keep kA (by simp [bA8]) (by simp [clA8]), f, lgN, gnN, ok18, by simp at hsz18; omega, M19.tail⟩
    · have M14 : ApSt N H b A8 A9 l0 l1 L c0 c1 tab r t lg gn t.length 1 H14 := S14
      obtain ⟨s0, lg0, gn0, ok0', sz0', M14⟩ := M14
      obtain ⟨dx, ws, slt⟩ := Gms.slt M14 (i := 0) rfl
      have eA8 := Gms.cel M14 A8 (fun H => H A8 = some (.lst [.ref s0, .ref c1])) mem0
      obtain ⟨lv, eL, ld⟩ := Gms.cel M14 L (fun H => LogAt H L lg) mem4
      refine ⟨_, rfl, _, rfl, A8, _, _, _, rfl, rfl, .of eA8, rfl, c1, dx, ws, rfl, slt, _, rfl, L, lv, rfl, .inl (.of eL), ?_⟩
      rw [ld.length]
      refine past_of M14 (i := 0) (k := lg.length) rfl ok6 (Nat.le_refl _) fun H15 f M15 k15 => ?_
      rw [List.take_length] at M15
      have bag15 := bag14.keep k15 (by simp) (by simp)
      have eA9 := Gms.cel M15 A9 (fun H => H A9 = some (.lst [.ref l0, .ref l1])) mem1
      refine ⟨_, rfl, _, rfl, _, rfl, _, rfl, _, rfl, _, rfl, A9, _, _, _, rfl, rfl, .of eA9, rfl, by show 0 ≤ sizeLine; decide, fun U hU => ?_⟩
      have eU : LogAt (upd H15 U (.lst [])) U [] := ⟨[], upd_same, .nil⟩
      have M16 := M15.reg (Kp.refl.new hU (o := .lst [])) (U, fun H => LogAt H U []) hU eU ⟨_, upd_same⟩ stab_log
      have bag16 := bag_new (o := .lst []) bag15 hU
      generalize upd H15 U (.lst []) = H16 at *
      refine ⟨_, rfl, b, cl, 4, rfl, bag16, by decide, by decide, fun j H17 hj bag17 k17 => ⟨_, _, rfl, rfl, ?_⟩⟩
      have M17 := M16.bagged k17 bag17
      refine Gms.led (many := 1 + j) M17 (i := 2) (G := ⟨tab, r, t, lg, []⟩) rfl bag17 hcl (L := l1) (U := U) mem4 mem0 (M15.ne _ mem3 hU) okP (M17.kp _ _ ep (.inr Prm.tup)) (by omega) (by simp; omega) [(A8, fun H => H A8 = some (.lst [.ref s0, .ref c1])), (A9, fun H => H A9 = some (.lst [.ref l0, .ref l1])), (l0, fun H => LogAt H l0 lg0)] (fun c hc => ?_) fun H18 lgN gnN bag18 ok18 hsz18 M18 => ⟨_, rfl, if_f rfl ?_⟩
      · show _ ∧ c.1 ≠ l1 ∧ c.1 ≠ U
        simp only [List.mem_cons, List.not_mem_nil, or_false] at hc
        rcases hc with rfl | rfl | rfl
        · exact ⟨mem1, d81, M15.ne _ mem0 hU⟩
        · exact ⟨mem2, d91, M15.ne _ mem1 hU⟩
        · exact ⟨mem3, d01, M15.ne _ mem2 hU⟩
      have eA8' := Gms.cel M18 A8 (fun H => H A8 = some (.lst [.ref s0, .ref c1])) mem1
      refine ⟨_, rfl, _, rfl, _, rfl, A8, _, _, 1, rfl, rfl, eA8', rfl, ?_⟩
      have kA : Kp N [A8] H18 (upd H18 A8 (.lst [.ref s0, .ref f])) := Kp.refl.lst eA8' (.inl (by simp))
      have M19 := M18.wr (ks' := [(A8, fun H => H A8 = some (.lst [.ref s0, .ref f])), (A9, fun H => H A9 = some (.lst [.ref l0, .ref l1])), (l0, fun H => LogAt H l0 lg0), (l1, fun H => LogAt H l1 lgN)]) kA (fun x hx => .inr ⟨_, mem1, (List.mem_singleton.mp hx).symm⟩) (fun x hx => by
        rw [List.mem_singleton.mp hx]
        exact (bag18.keep kA (by simp [bA8]) (by simp [clA8])).dom.1) (fun c hc => by
        simp only [List.mem_cons, List.not_mem_nil, or_false] at hc
        rcases hc with rfl | rfl | rfl | rfl
        · exact .inr ⟨⟨_, mem1, rfl⟩, upd_same, ⟨_, upd_same⟩, stab_cell⟩
        · exact .inl ⟨mem2, by simp [Ne.symm d89]⟩
        · exact .inl ⟨mem3, by simp [Ne.symm d80]⟩
        · exact .inl ⟨mem0, by simp [Ne.symm d81]⟩)
      exact ⟨_, _, rfl, bag18.keep kA (by simp [bA8]) (by simp [clA8]), s0, lg0, gn0, f, lgN, gnN, ok0', sz0', ok18, by simp at hsz18; omega, M19.tail⟩
  rintro σ H14 ⟨v3, v10, rfl, bag14, S14⟩
  obtain ⟨s0, lg0, gn0, s1, lg1, gn1, okA, szA, okB, szB, M14⟩ := (S14 : ApSt N H b A8 A9 l0 l1 L c0 c1 tab r t lg gn t.length 2 H14)
  have eA9 := M14.cel A9 (fun H => H A9 = some (.lst [.ref l0, .ref l1])) mem1
  obtain ⟨lv0, el0, ld0⟩ := M14.cel l0 (fun H => LogAt H l0 lg0) mem2
  obtain ⟨lv1, el1, ld1⟩ := M14.cel l1 (fun H => LogAt H l1 lg1) mem3
  refine ⟨_, rfl, A9, _, 0, _, rfl, rfl, .of eA9, rfl, l0, lv0, rfl, .inl (.of el0), _, rfl, A9, _, 1, _, rfl, rfl, .of eA9, rfl, l1, lv1, rfl, .inl (.of el1), _, _, rfl, ?_⟩
  have hmin : (if (lv1.length : Int) < (lv0.length : Int) then (lv1.length : Int) else (lv0.length : Int)) = ((min lg0.length lg1.length : Nat) : Int) := by
    rw [ld0.length, ld1.length]
    split <;> omega
  rw [hmin]
  obtain ⟨least, hleast⟩ : ∃ least, least = min lg0.length lg1.length := ⟨_, rfl⟩
  rw [← hleast]
  refine ⟨_, rfl, least, rfl, by omega, by omega, fun D hD => ?_⟩
  have e9 : ((least : Nat) : Int).toNat = least := by omega
  rw [e9]
  refine lc_acc walk_range (fun i acc H' => acc = (((List.range i).filter fun k => decide (lg0.take (k + 1) = lg1.take (k + 1))).map fun k : Nat => V.int (k : Nat)) ∧ Kp N [] H14 H') (by omega) ⟨rfl, Kp.refl.new hD⟩ (fun i acc H' r => ?_) (fun i acc H' _ _ _ => trivial) ?_ ?_
  · rw [r.1, List.length_map]
    exact Nat.le_trans (List.length_filter_le _ _) (by rw [List.length_range]; omega)
  · rintro i x acc H15 H16 hi e z ⟨rfl, k15⟩ ⟨rfl, rfl⟩
    have c0' : ∀ {lv : List V}, cutV lv none (some (0 + (i : Int) + 1)) = lv.take (i + 1) := fun {lv} => by
      rw [cutV_L, cutL_to _ (by omega), show (0 + (i : Int) + 1).toNat = i + 1 by omega]
    refine ⟨rfl, _, rfl, A9, _, 0, _, rfl, rfl, .of (k15 _ _ eA9 (.inl (by simp))), rfl, _, rfl, _, _, rfl, rfl, _, rfl, l0, lv0, rfl, .of (k15 _ _ el0 (.inl (by simp))), fun q1 hq1 => ?_⟩
    rw [c0']
    have k16 : Kp N [] H16 (upd H16 q1 (.lst (lv0.take (i + 1)))) := Kp.refl.new hq1
    have eq1 : (upd H16 q1 (.lst (lv0.take (i + 1)))) q1 = some (.lst (lv0.take (i + 1))) := upd_same
    have eDq := k16 _ _ e (.inl (by simp))
    generalize upd H16 q1 (.lst (lv0.take (i + 1))) = H17 at *
    have k17 := k15.then k16
    refine ⟨_, rfl, A9, _, 1, _, rfl, rfl, .of (k17 _ _ eA9 (.inl (by simp))), rfl, _, rfl, _, _, rfl, rfl, _, rfl, l1, lv1, rfl, .of (k17 _ _ el1 (.inl (by simp))), fun q2 hq2 => ?_⟩
    rw [c0']
    have k18 : Kp N [] H17 (upd H17 q2 (.lst (lv1.take (i + 1)))) := Kp.refl.new hq2
    have eq2 : (upd H17 q2 (.lst (lv1.take (i + 1)))) q2 = some (.lst (lv1.take (i + 1))) := upd_same
    have eq1' := k18 _ _ eq1 (.inl (by simp))
    have eDq' := k18 _ _ eDq (.inl (by simp))
    generalize upd H17 q2 (.lst (lv1.take (i + 1))) = H18 at *
    have k19 := k17.then k18
    have n0 : Nice 4000 2 (.list ((lg0.take (i + 1)).map deedD)) := (nice_deeds okA.n1 okA.r2 fun d hd => okA.log d (List.mem_of_mem_take hd)).list.mono (by rw [List.length_take]; omega) (Nat.le_refl _)
    have n1 : Nice 4000 2 (.list ((lg1.take (i + 1)).map deedD)) := (nice_deeds okB.n1 okB.r2 fun d hd => okB.log d (List.mem_of_mem_take hd)).list.mono (by rw [List.length_take]; omega) (Nat.le_refl _)
    refine ⟨.list ((lg0.take (i + 1)).map deedD), .list ((lg1.take (i + 1)).map deedD), .lst (.of eq1') (dp_deeds ((ld0.keep k19).take _)), .lst (.of eq2) (dp_deeds ((ld1.keep k19).take _)), n0.shaped (by decide), n1.shaped (by decide), _, rfl, ?_⟩
    rw [eqv_deeds]
    by_cases c : lg0.take (i + 1) = lg1.take (i + 1)
    · refine if_t (decide_eq_true c) ⟨_, rfl, LcN.add eDq' z ⟨?_, k19.put hD⟩⟩
      rw [List.range_succ, List.filter_append, List.map_append]
      simp [c]
    · refine if_f (decide_eq_false c) ⟨_, eDq', ?_, k19⟩
      rw [List.range_succ, List.filter_append, List.map_append]
      simp [c]
  rintro acc H15 eD ⟨rfl, k15⟩
  obtain ⟨c, hc⟩ : ∃ c, c = ((List.range least).filter fun k => decide (lg0.take (k + 1) = lg1.take (k + 1))).length := ⟨_, rfl⟩
  obtain ⟨hcA, hcB, hcc⟩ := common_take lg0 lg1 c (by rw [← hleast]; exact hc)
  refine ⟨D, _, rfl, .inl (.of eD), ?_⟩
  rw [List.length_map, ← hc]
  have M15 := M14.same k15
  have bag15 := bag14.keep k15 (by simp) (by simp)
  clear M14 bag14 eA9 el0 el1 ld0 ld1 k15 eD hD
  have hb0 : ∃ o, H b = some o := ⟨_, eb0⟩
  obtain ⟨KS, hKS⟩ : ∃ KS : List Cel, KS = [(A8, fun H => H A8 = some (.lst [.ref s0, .ref s1])), (A9, fun H => H A9 = some (.lst [.ref l0, .ref l1])), (l0, fun H => LogAt H l0 lg0), (l1, fun H => LogAt H l1 lg1)] := ⟨_, rfl⟩
  obtain ⟨GG, hGG⟩ : ∃ GG : List (Addr × GS), GG = [(s0, ⟨tab, r, t, lg0, gn0⟩), (s1, ⟨tab, r, t, lg1, gn1⟩)] := ⟨_, rfl⟩
  have m8 : ((A8, fun H => H A8 = some (.lst [.ref s0, .ref s1])) : Cel) ∈ KS := by rw [hKS]; exact mem0
  have m9 : ((A9, fun H => H A9 = some (.lst [.ref l0, .ref l1])) : Cel) ∈ KS := by rw [hKS]; exact mem1
  rw [← hKS, ← hGG] at M15
  -- undone, redone
  refine ⟨2, rfl, by decide, by decide, ?_⟩
  refine for_range (fun i σ H' => ∃ v3 v11 v12, σ = [some (.ref b), some (.ref p), some (.str (S t)), v3, some (.int (least : Nat)), some (.int (c : Nat)), some (.ref g), some (.ref L), some (.ref A8), some (.ref A9), v10, v11, v12] ∧ BagAt H' b cl ∧ Gms N H [b] H' GG KS) ⟨_, _, _, rfl, bag15, M15⟩ ?_ ?_
  · rintro i σ H16 hi ⟨v3, v11, v12, rfl, bag16, M16⟩
    obtain ⟨sk, so, lk, lgk, gnk, lgo, gno, gk, go, ak, ao, al, mk, okK, okO, szK, hck, hco, hcc'⟩ := duo (s0 := s0) (s1 := s1) (A8 := A8) (A9 := A9) (l0 := l0) (l1 := l1) okA okB szA szB hcA hcB hcc (show i < 2 from hi)
    rw [← hGG] at gk go
    rw [← hKS] at mk
    obtain ⟨un, hun⟩ : ∃ un, un = (lgk.drop c).reverse := ⟨_, rfl⟩
    obtain ⟨m, hm⟩ : ∃ m, m = lgk.length - c := ⟨_, rfl⟩
    have hunm : lgk.reverse.take m = un := by rw [hm, hun]; exact gU_u hck
    have hunl : un.length = m := by rw [hun, List.length_reverse, List.length_drop, hm]
    have hwf : ∀ d ∈ lgk, Wf t.length r d := okK.log
    have nle : ∀ ds : List Deed, (∀ d ∈ ds, d ∈ lgk) → ds.length ≤ 10 → Nice 4000 2 (.list (ds.map deedD)) := fun ds h hl => (nice_deeds okK.n1 okK.r2 fun d hd => hwf d (h d hd)).list.mono (by omega) (Nat.le_refl _)
    have nun : Nice 4000 2 (.list (un.map deedD)) := nle un (fun d hd => by rw [hun] at hd; exact List.mem_of_mem_drop (List.mem_reverse.mp hd)) (by rw [hunl]; omega)
    have cutc : ∀ {lv : List V}, cutV lv (some (c : Int)) none = lv.drop c := fun {lv} => by
      rw [cutV_L, cutL_from _ (by omega)]
      rfl
    -- the slice
    have eA9 := M16.cel A9 _ m9
    obtain ⟨lv, el, ld⟩ := M16.cel lk _ mk
    refine ⟨_, rfl, _, rfl, A9, _, _, _, rfl, rfl, .of eA9, atI_nat.trans al, _, rfl, _, rfl, lk, lv, rfl, .of el, fun q1 hq1 => ?_⟩
    rw [cutc]
    have M17 := M16.cell hq1 (o := .lst (lv.drop c))
    have bag17 := bag_new (o := .lst (lv.drop c)) bag16 hq1
    refine ⟨q1, rfl, ⟨_, .of upd_same⟩, fun D hD => ?_⟩
    have hlvl : (lv.drop c).length = m := by rw [List.length_drop, ld.length, hm]
    clear eA9 el ld
    generalize upd H16 q1 (.lst (lv.drop c)) = H17 at *
    have D0 : H D = none := by
      obtain ⟨xs, M, _⟩ := M17
      rcases M.kp.fresh hD with z | z
      · exact z
      · obtain ⟨_, o, e⟩ := M.l0 _ z
        rw [hD] at e; cases e
    have Db : D ∉ [b] := fun z => by rw [List.mem_singleton.mp z, eb0] at D0; cases D0
    have kd : i < GG.length := (List.getElem?_eq_some_iff.mp gk).1
    have m8' : ∀ {a b' : Cel}, ((A8, fun H => H A8 = some (.lst [.ref s0, .ref s1])) : Cel) ∈ a :: b' :: KS := List.mem_cons_of_mem _ (List.mem_cons_of_mem _ m8)
    have m9' : ∀ {a b' : Cel}, ((A9, fun H => H A9 = some (.lst [.ref l0, .ref l1])) : Cel) ∈ a :: b' :: KS := List.mem_cons_of_mem _ (List.mem_cons_of_mem _ m9)
    have mk' : ∀ {a b' : Cel}, ((lk, fun H => LogAt H lk lgk) : Cel) ∈ a :: b' :: KS := List.mem_cons_of_mem _ (List.mem_cons_of_mem _ mk)
    have hkD : ∀ c' ∈ ((q1, fun H => H q1 = some (.lst (lv.drop c))) : Cel) :: KS, c'.1 ≠ D := fun c' hc' => M17.ne c' hc' hD
    -- undo
    refine lc_acc walk_list (fun u acc H' => DeedsV H' acc (lgk.reverse.take u) ∧ Gms N H [b] H' (GG.set i (sk, gU tab r t lgk gnk u)) ((D, fun H => H D = some (.lst acc)) :: (q1, fun H => H q1 = some (.lst (lv.drop c))) :: KS) ∧ Old H H17 H') (by rw [hlvl]; omega) ⟨.nil, ?_, Old.of (N := N) (Kp.refl.new hD)⟩ (fun u acc H' r => ?_) (fun u acc H' _ _ r => .of (r.2.1.cel q1 (fun H => H q1 = some (.lst (lv.drop c))) mem1)) ?_ ?_
    · rw [gU_0, set_same gk]
      exact M17.cell hD
    · rw [r.1.length]
      exact List.length_take_le _ _
    · rintro u x acc H18 H19 hu e z ⟨dv, M18, old18⟩ ⟨rfl, hx⟩
      have hu2 : u < lgk.reverse.length := by rw [List.length_reverse]; omega
      have hDd : lgk.reverse[u]? = some lgk.reverse[u] := List.getElem?_eq_getElem hu2
      generalize lgk.reverse[u] = Dd at hDd
      have gk' : (GG.set i (sk, gU tab r t lgk gnk u))[i]? = some (sk, gU tab r t lgk gnk u) := List.getElem?_set_self kd
      obtain ⟨dx, ws, slt⟩ := M18.slt gk'
      refine ⟨rfl, _, rfl, _, rfl, A8, _, _, _, rfl, rfl, .of (M18.cel A8 _ m8'), atI_nat.trans ak, sk, dx, ws, rfl, slt, undo_of M18 gk' (gU_ok okK u) (gU_next hDd) fun H20 d M20 ed20 old20 ⟨l', k20⟩ => ?_⟩
      rw [List.set_set] at M20
      have eD20 := M20.cel D (fun H => H D = some (.lst acc)) mem0
      have kD : Kp N [D] H20 (upd H20 D (.lst (acc ++ [.ref d]))) := Kp.refl.lst eD20 (.inl (by simp))
      refine LcN.add eD20 z ⟨?_, ?_, (old18.trans old20).put D0⟩
      · rw [take_snoc hDd]
        exact ((dv.keep k20).keep kD).snoc (kD _ _ ed20 (.inr Prm.tup))
      · have eG : ({ gU tab r t lgk gnk u with log := (lgk.reverse.drop (u + 1)).reverse, gone := (gU tab r t lgk gnk u).gone ++ [Dd] } : GS) = gU tab r t lgk gnk (u + 1) := by
          unfold gU
          rw [take_snoc hDd, ← List.append_assoc]
        rw [← eG]
        exact M20.addc Db hkD
    rintro uv H18 eD ⟨dv, M18, old18⟩
    rw [hlvl] at dv M18
    rw [hunm] at dv
    have bag18 := bag17.old hb0 hcl old18
    have uvl : uv.length = m := by rw [dv.length, hunl]
    clear old18 bag17 M17 hD
    -- the undone ones
    have eA9 := M18.cel A9 _ m9'
    obtain ⟨lv2, el2, ld2⟩ := M18.cel lk _ mk'
    refine ⟨_, rfl, _, rfl, _, rfl, A9, _, _, _, rfl, rfl, .of eA9, atI_nat.trans al, _, rfl, _, rfl, lk, lv2, rfl, .of el2, fun q2 hq2 => ⟨q2, _, rfl, .of upd_same, fun q3 hq3 => ?_⟩⟩
    rw [cutc]
    rw [cutc] at hq3
    have k19 : Kp N [] H18 (upd (upd H18 q2 (.lst (lv2.drop c))) q3 (.lst (lv2.drop c).reverse)) := (Kp.refl.new hq2).new hq3
    have e3 : (upd (upd H18 q2 (.lst (lv2.drop c))) q3 (.lst (lv2.drop c).reverse)) q3 = some (.lst (lv2.drop c).reverse) := upd_same
    have ld3 := ((ld2.drop c).reverse).keep k19
    rw [← hun] at ld3
    have M19 := M18.same k19
    have bag19 := bag18.keep k19 (by simp) (by simp)
    have eD19 := k19 _ _ eD (.inl (by simp))
    have dv19 := dv.keep k19
    clear eD dv M18 bag18 eA9 el2 ld2 hq2 hq3 k19
    generalize upd (upd H18 q2 (.lst (lv2.drop c))) q3 (.lst (lv2.drop c).reverse) = H19 at *
    refine ⟨.list (un.map deedD), .list (un.map deedD), .lst (.of eD19) (dp_deeds dv19), .lst (.of e3) (dp_deeds ld3), nun.shaped (by decide), nun.shaped (by decide), _, rfl, ?_⟩
    rw [eqv_deeds, dec_rfl]
    refine if_f rfl ?_
    -- the past of the other
    have eA8 := M19.cel A8 _ m8'
    have go' : (GG.set i (sk, gU tab r t lgk gnk m))[1 - i]? = some (so, ⟨tab, r, t, lgo, gno⟩) := by rw [List.getElem?_set_ne (by omega)]; exact go
    have gk' : (GG.set i (sk, gU tab r t lgk gnk m))[i]? = some (sk, gU tab r t lgk gnk m) := List.getElem?_set_self kd
    obtain ⟨dx, ws, slt⟩ := M19.slt go'
    refine ⟨_, rfl, _, rfl, A8, _, _, _, rfl, rfl, .of eA8, atI_nat.trans ak, _, rfl, _, rfl, _, _, rfl, rfl, A8, _, _, _, rfl, rfl, .of eA8, (atI_sub hi).trans ao, so, dx, ws, rfl, slt, _, rfl, past_of M19 go' okO hco fun H20 f M20 k20 => ?_⟩
    clear slt
    have gkA : (GG.set i (sk, gU tab r t lgk gnk m) ++ [(f, (⟨tab, r, t, lgo.take c, []⟩ : GS))])[i]? = some (sk, gU tab r t lgk gnk m) := by rw [List.getElem?_append_left (by rw [List.length_set]; exact kd)]; exact gk'
    have gkB : (GG.set i (sk, gU tab r t lgk gnk m) ++ [(f, (⟨tab, r, t, lgo.take c, []⟩ : GS))])[(GG.set i (sk, gU tab r t lgk gnk m)).length]? = some (f, ⟨tab, r, t, lgo.take c, []⟩) := by rw [List.getElem?_append_right (Nat.le_refl _), Nat.sub_self]; rfl
    obtain ⟨owk, gak⟩ := Gms.game M20 gkA
    obtain ⟨owf, gaf⟩ := Gms.game M20 gkB
    obtain ⟨dxk, wsk, sltk⟩ := gak.slt
    obtain ⟨dxf, wsf, sltf⟩ := gaf.slt
    have okF : GsOk t.length r ⟨tab, r, t, lgo.take c, []⟩ := ⟨okO.rr, okO.r2, okO.tab, okO.n0, okO.n1, okO.len, okO.ok, fun d hd => okO.log d (List.mem_of_mem_take hd), by simp, by have := okO.sz; simp at this ⊢; omega⟩
    have eqL : (gU tab r t lgk gnk m).log = lgo.take c := by
      show (lgk.reverse.drop m).reverse = _
      rw [hm, gU_c hck, hcc']
    refine ⟨sk, dxk, wsk, f, N.Game, dxf, wsf, rfl, rfl, sltk, sltf, T.nf_Game, sk, f, owk, owf, _, _, t.length, r, rfl, gak, gaf, gU_ok okK m, okF, rfl, rfl, _, rfl, _, rfl, ?_⟩
    refine if_f (by rw [decide_eq_true (by exact eqL)]; rfl) ?_
    have M21 := M20.front
    have bag20 := bag19.keep k20 (by simp) (by simp)
    have eD20 := k20 _ _ eD19 (.inl (by simp))
    have dv20 := dv19.keep k20
    clear M19 M20 bag19 eD19 dv19 k20 gkA gkB gak gaf sltk sltf eA8 e3 ld3
    -- redo
    have M21' : Gms N H [b] H20 (GG.set i (sk, gU tab r t lgk gnk m)) ((D, fun H => H D = some (.lst uv)) :: KS) := M21.sub fun c' hc' => by
      rcases List.mem_cons.mp hc' with rfl | h
      · exact mem0
      · exact List.mem_cons_of_mem _ (List.mem_cons_of_mem _ h)
    clear M21
    refine ⟨_, rfl, D, rfl, ⟨_, .of eD20⟩, fun D2 hD2 => ?_⟩
    have D20 : H D2 = none := by
      obtain ⟨xs, M, _⟩ := M21'
      rcases M.kp.fresh hD2 with z | z
      · exact z
      · obtain ⟨_, o, e⟩ := M.l0 _ z
        rw [hD2] at e; cases e
    have D2b : D2 ∉ [b] := fun z => by rw [List.mem_singleton.mp z, eb0] at D20; cases D20
    have hkD2 : ∀ c' ∈ ((D, fun H => H D = some (.lst uv)) : Cel) :: KS, c'.1 ≠ D2 := fun c' hc' => M21'.ne c' hc' hD2
    refine lc_acc walk_list (fun u acc H' => DeedsV H' acc (un.drop (m - u)).reverse ∧ Gms N H [b] H' (GG.set i (sk, gU tab r t lgk gnk (m - u))) ((D2, fun H => H D2 = some (.lst acc)) :: (D, fun H => H D = some (.lst uv)) :: KS) ∧ Old H H20 H' ∧ DeedsV H' uv un) (by rw [uvl]; omega) ⟨?_, ?_, Old.of (N := N) (Kp.refl.new hD2), dv20.keep (Kp.refl.new (N := N) (l := []) hD2)⟩ (fun u acc H' r => ?_) (fun u acc H' _ _ r => .of (r.2.1.cel D (fun H => H D = some (.lst uv)) mem1)) ?_ ?_
    · rw [Nat.sub_zero, List.drop_of_length_le (by omega)]
      exact .nil
    · exact M21'.cell hD2
    · rw [r.1.length, List.length_reverse, List.length_drop]
      omega
    · rintro u x acc H21 H22 hu e z ⟨dv, M18, old18, dvv⟩ ⟨rfl, hx⟩
      rw [uvl] at hu
      obtain ⟨v, hv⟩ : ∃ v, m - u = v + 1 := ⟨m - u - 1, by omega⟩
      have hv2 : m - (u + 1) = v := by omega
      rw [hv] at dv M18
      have hu2 : v < lgk.reverse.length := by rw [List.length_reverse]; omega
      have hDd : lgk.reverse[v]? = some lgk.reverse[v] := List.getElem?_eq_getElem hu2
      generalize lgk.reverse[v] = Dd at hDd
      have hDu : un[v]? = some Dd := by rw [← hunm, List.getElem?_take, if_pos (by omega)]; exact hDd
      have hdu : (un.drop v).reverse = (un.drop (v + 1)).reverse ++ [Dd] := by
        obtain ⟨hi', e'⟩ := List.getElem?_eq_some_iff.mp hDu
        rw [List.drop_eq_getElem_cons hi', e', List.reverse_cons]
      have gk' : (GG.set i (sk, gU tab r t lgk gnk (v + 1)))[i]? = some (sk, gU tab r t lgk gnk (v + 1)) := List.getElem?_set_self kd
      have eg : (gU tab r t lgk gnk (v + 1)).gone = (gnk ++ lgk.reverse.take v) ++ [Dd] := by
        show gnk ++ lgk.reverse.take (v + 1) = _
        rw [take_snoc hDd, List.append_assoc]
      obtain ⟨dx, ws, slt⟩ := M18.slt gk'
      refine ⟨rfl, _, rfl, _, rfl, A8, _, _, _, rfl, rfl, .of (M18.cel A8 _ m8'), atI_nat.trans ak, sk, dx, ws, rfl, slt, redo_of M18 gk' (gU_ok okK (v + 1)) eg fun H20 d M20 ed20 old20 ⟨l', k20⟩ => ?_⟩
      rw [List.set_set] at M20
      have eD20 := M20.cel D2 (fun H => H D2 = some (.lst acc)) mem0
      have kD : Kp N [D2] H20 (upd H20 D2 (.lst (acc ++ [.ref d]))) := Kp.refl.lst eD20 (.inl (by simp))
      refine LcN.add eD20 z ⟨?_, ?_, (old18.trans old20).put D20, (dvv.keep k20).keep kD⟩
      · rw [hv2, hdu]
        exact ((dv.keep k20).keep kD).snoc (kD _ _ ed20 (.inr Prm.tup))
      · have eG : ({ gU tab r t lgk gnk (v + 1) with log := (gU tab r t lgk gnk (v + 1)).log ++ [Dd], gone := gnk ++ lgk.reverse.take v } : GS) = gU tab r t lgk gnk v := by
          unfold gU
          rw [gU_next hDd]
        rw [hv2, ← eG]
        exact M20.addc D2b hkD2
    rintro uw H21 eD2 ⟨dw, M22, old21, dvv⟩
    rw [uvl, Nat.sub_self] at dw M22
    rw [gU_0, set_same gk] at M22
    have bag21 := bag20.old hb0 hcl old21
    have eD21 := M22.cel D (fun H => H D = some (.lst uv)) mem1
    refine ⟨_, rfl, D, uv, rfl, .of eD21, fun q4 hq4 => ?_⟩
    have k22 : Kp N [] H21 (upd H21 q4 (.lst uv.reverse)) := Kp.refl.new hq4
    have e4 : (upd H21 q4 (.lst uv.reverse)) q4 = some (.lst uv.reverse) := upd_same
    have M23 := M22.same k22
    have bag22 := bag21.keep k22 (by simp) (by simp)
    have eD22 := k22 _ _ eD2 (.inl (by simp))
    have dw22 := dw.keep k22
    have dv22 : DeedsV (upd H21 q4 (.lst uv.reverse)) uv.reverse un.reverse := (dvv.keep k22).reverse
    have nur : Nice 4000 2 (.list (un.reverse.map deedD)) := nle un.reverse (fun d hd => by rw [hun, List.reverse_reverse] at hd; exact List.mem_of_mem_drop hd) (by rw [List.length_reverse, hunl]; omega)
    refine ⟨.list (un.reverse.map deedD), .list (un.reverse.map deedD), .lst (.of eD22) (dp_deeds dw22), .lst (.of e4) (dp_deeds dv22), nur.shaped (by decide), nur.shaped (by decide), _, rfl, ?_⟩
    rw [eqv_deeds, dec_rfl]
    refine if_f rfl ?_
    generalize upd H21 q4 (.lst uv.reverse) = H23 at *
    -- it stands so
    obtain ⟨own, ga⟩ := M23.game gk
    refine ⟨_, rfl, _, rfl, A8, _, _, _, rfl, rfl, .of (M23.cel A8 _ m8'), atI_nat.trans ak, _, rfl, _, rfl, _, rfl, _, rfl, A9, _, _, _, rfl, rfl, .of (M23.cel A9 _ m9'), atI_nat.trans al, sk, p, lk, own, _, t.length, r, rfl, ga, okK, M23.kp _ _ ep (.inr Prm.tup), M23.cel lk _ mk', fun H24 k24 => ⟨_, rfl, if_f rfl ?_⟩⟩
    exact ⟨_, _, _, rfl, bag22.keep k24 (by simp) (by simp), (M23.same k24).sub fun c' hc' => List.mem_cons_of_mem _ (List.mem_cons_of_mem _ hc')⟩
  rintro σ H16 ⟨v3, v11, v12, rfl, bag16, M16⟩
  rw [hGG, hKS] at M16
  -- alike or not
  have eA8 := M16.cel A8 (fun H => H A8 = some (.lst [.ref s0, .ref s1])) mem0
  have eA9 := M16.cel A9 (fun H => H A9 = some (.lst [.ref l0, .ref l1])) mem1
  obtain ⟨lv0, el0, ld0⟩ := M16.cel l0 (fun H => LogAt H l0 lg0) mem2
  obtain ⟨lv1, el1, ld1⟩ := M16.cel l1 (fun H => LogAt H l1 lg1) mem3
  obtain ⟨ow0, ga0⟩ := M16.game (i := 0) rfl
  obtain ⟨ow1, ga1⟩ := M16.game (i := 1) rfl
  obtain ⟨dx0, ws0, slt0⟩ := ga0.slt
  obtain ⟨dx1, ws1, slt1⟩ := ga1.slt
  have n0 : Nice 4000 2 (.list (lg0.map deedD)) := (nice_deeds (ds := lg0) okA.n1 okA.r2 okA.log).list.mono (by omega) (Nat.le_refl _)
  have n1 : Nice 4000 2 (.list (lg1.map deedD)) := (nice_deeds (ds := lg1) okB.n1 okB.r2 okB.log).list.mono (by omega) (Nat.le_refl _)
  refine ⟨_, rfl, A8, _, 0, _, rfl, rfl, .of eA8, rfl, _, rfl, A8, _, 1, _, rfl, rfl, .of eA8, rfl, s0, dx0, ws0, s1, N.Game, dx1, ws1, rfl, rfl, slt0, slt1, T.nf_Game, s0, s1, ow0, ow1, _, _, t.length, r, rfl, ga0, ga1, okA, okB, rfl, rfl,
    _, rfl, A9, _, 0, _, rfl, rfl, .of eA9, rfl, _, rfl, A9, _, 1, _, rfl, rfl, .of eA9, rfl, .list (lg0.map deedD), .list (lg1.map deedD), .lst (.of el0) (dp_deeds ld0), .lst (.of el1) (dp_deeds ld1), n0.shaped (by decide), n1.shaped (by decide), rfl, ?_⟩
  rw [eqv_deeds, dec_rfl]
  exact q H16 bag16 M16.kp
theorem ok_l_apart_right (T : Txt K w mg N) : FnG Pw w K mg base CX0 19 N.l_apart_right (sp_l_apart_right K N) := by
  obtain ⟨fd, F, b⟩ := T.d_l_apart_right
  exact mk_fnG F b sc_l_apart_right (fun vs H Q E h => by (repeat (first | (obtain ⟨rfl, _⟩ := h; rfl) | (obtain ⟨_, h⟩ := h)))) fun cdv A outer s H vs Q E hr hG h => ⟨t_l_apart_right K N, (PSs.nox (by exact (pss_cons (ps_par (i := 6) (j := 7) rfl sc_l_apart_right.nd rfl rfl (by decide) rfl rfl (pa_cons (StX.pe_makeR T.mk_Game (ok_Game_init T) (hr.mono (by decide)) rfl T.g_Game pass0 (pa_cons (pe_cl (ok_l_made_rule T) (hr.mono (by decide)) rfl T.g_l_made_rule T.k_l_made_rule pass0 (pa_cons (pv 1) pa_nil)) (pa_cons (pv 2) pa_nil))) (pa_cons (pe_lst pa_nil) pa_nil)) rfl)
 (pss_cons (ps_if (pt_not (pt_val (pe_clG (ok_l_led T) (hr.mono (by decide)) hG rfl T.g_l_led T.k_l_led pass0 (pa_cons (pv 0) (pa_cons (pv 6) (pa_cons (pv 1) (pa_cons (pv 2) (pa_cons (pv 7) (pa_cons (pe_lst pa_nil) (pa_cons (pe_cl (ok_l_take T) (hr.mono (by decide)) rfl T.g_l_take T.k_l_take pass0 (pa_cons (pv 0) (pa_cons pe_int pa_nil))) pa_nil)))))))))) pss_never pss_nil)
 (pss_cons (ps_asg (pe_tup (pa_cons (pe_lst (pa_cons (SlX.pe_methSl0 (pv 6) T.c_Game T.m_Game_copied (ok_Game_copied T) (hr.mono (by decide)) pass0) (pa_cons (SlX.pe_methSl0 (pv 6) T.c_Game T.m_Game_copied (ok_Game_copied T) (hr.mono (by decide)) pass0) pa_nil))) (pa_cons (pe_lst (pa_cons (pe_callTy call_list_of rfl T.n_list bt_list (pa_cons (pv 7) pa_nil)) (pa_cons (pe_callTy call_list_of rfl T.n_list bt_list (pa_cons (pv 7) pa_nil)) pa_nil))) pa_nil))) (pg_tup rfl (pgs_cons (pg_name (i := 8) sc_l_apart_right.nd rfl (Or.inr rfl)) (pgs_cons (pg_name (i := 9) sc_l_apart_right.nd rfl (Or.inr rfl)) pgs_nil))))
 (pss_cons (ps_for PassesOwn.never rfl (pi_range1 rfl T.n_range (pa_cons pe_int pa_nil)) (pg_name (i := 3) sc_l_apart_right.nd rfl (Or.inr rfl))
 (pss_cons (ps_set (i := 10) sc_l_apart_right.nd rfl (Or.inl rfl) (SlX.pe_methSl (pe_ix ix_list (pv 8) (pv 3) (fun _ _ => rfl)) T.c_Game T.m_Game_past (ok_Game_past T) (hr.mono (by decide)) pass0 (pa_cons (pe_callB call_len_seq rfl T.n_len bt_len (pa_cons (pv 7) pa_nil)) pa_nil)))
 (pss_cons (ps_if (pt_not (pt_val (pe_clG (ok_l_led T) (hr.mono (by decide)) hG rfl T.g_l_led T.k_l_led pass0 (pa_cons (pv 0) (pa_cons (pv 10) (pa_cons (pv 1) (pa_cons (pv 2) (pa_cons (pe_ix ix_list (pv 9) (pv 3) (fun _ _ => rfl)) (pa_cons (pe_lst pa_nil) (pa_cons (pe_op op_add pe_int (pe_cl (ok_l_take T) (hr.mono (by decide)) rfl T.g_l_take T.k_l_take pass0 (pa_cons (pv 0) (pa_cons pe_int pa_nil)))) pa_nil)))))))))) pss_never pss_nil)
 (pss_one (ps_asg (pv 10) (pg_sub (pv 8) (pv 3) set_list))))))
 (pss_cons (ps_set (i := 4) sc_l_apart_right.nd rfl (Or.inl rfl) (pe_callB (call_min2 rfl) rfl T.n_min bt_min (pa_cons (pe_callB call_len_seq rfl T.n_len bt_len (pa_cons (pe_ix ix_list (pv 9) pe_int (fun _ _ => rfl)) pa_nil)) (pa_cons (pe_callB call_len_seq rfl T.n_len bt_len (pa_cons (pe_ix ix_list (pv 9) pe_int (fun _ _ => rfl)) pa_nil)) pa_nil))))
 (pss_cons (ps_set (i := 5) sc_l_apart_right.nd rfl (Or.inl rfl) (pe_callB call_len_seq rfl T.n_len bt_len (pa_cons (pe_lc (own := [(("_law_k" : Str), 3)]) (g := (gName 3)) (tt := (tTest (tOp (rEqD K) (L2.tSl (rSlL K) (tOp (rIxL K) (tVar 9) (tC (.int 0))) tNoPart (tPart (tOp rAddI (tVar 3) (tC (.int 1))))) (L2.tSl (rSlL K) (tOp (rIxL K) (tVar 9) (tC (.int 1))) tNoPart (tPart (tOp rAddI (tVar 3) (tC (.int 1)))))))) rfl sc_l_apart_right.nd (pi_range1 rfl T.n_range (pa_cons (pv 4) pa_nil)) (blkOk_by (N := nm_l_apart_right) (sc := defScope s_l_apart_right) (by decide +kernel)) (fun _ _ _ _ _ => (pg_name (i := 3) sc_l_apart_right.nd rfl (Or.inl rfl))) (fun _ _ _ _ _ => (pts_one (pt_cmpR (op_eqD hr.units) (pe_slice sl_list (pe_ix ix_list (pv 9) pe_int (fun _ _ => rfl)) po_none (po_some (pe_op op_add (pv 3) pe_int))) (pe_slice sl_list (pe_ix ix_list (pv 9) pe_int (fun _ _ => rfl)) po_none (po_some (pe_op op_add (pv 3) pe_int))) (nomark _)))) (fun _ _ _ _ _ => (pv 3))) pa_nil)))
 (pss_cons (ps_for PassesOwn.never rfl (pi_range1 rfl T.n_range (pa_cons pe_int pa_nil)) (pg_name (i := 3) sc_l_apart_right.nd rfl (Or.inr rfl))
 (pss_cons (ps_setLc (own := [(("_law_deed_here" : Str), 12)]) (g := (gName 12)) (tt := tYes) (i := 11) rfl sc_l_apart_right.nd rfl rfl (sw_true rfl rfl rfl (by decide +kernel)) (pi_list (pe_slice sl_list (pe_ix ix_list (pv 9) (pv 3) (fun _ _ => rfl)) (po_some (pv 5)) po_none)) (blkOk_by (N := nm_l_apart_right) (sc := defScope s_l_apart_right) (by decide +kernel)) (fun _ _ _ _ _ => (pg_name (i := 12) sc_l_apart_right.nd rfl (Or.inl rfl))) (fun _ _ _ _ _ => pts_nil) (fun _ _ _ _ _ => (SlX.pe_methSl0 (pe_ix ix_list (pv 8) (pv 3) (fun _ _ => rfl)) T.c_Game T.m_Game_undo (ok_Game_undo T) (hr.mono (by decide)) passL)))
 (pss_cons (ps_if (PW.pt (pw_or (pt_cmpR (op_neD hr.units) (pv 11) (pe_revL (pe_slice sl_list (pe_ix ix_list (pv 9) (pv 3) (fun _ _ => rfl)) (po_some (pv 5)) po_none)) (nomark _)) (pw_or1 (pt_cmpR (op_ownNe T.ob_Game T.ne_Game T.eq_Game T.fn_Game_eq (ok_Game_eq T) (hr.mono (by decide)) pass0) (pe_ix ix_list (pv 8) (pv 3) (fun _ _ => rfl)) (SlX.pe_methSl (pe_ix ix_list (pv 8) (pe_op op_sub pe_int (pv 3)) (fun _ _ => rfl)) T.c_Game T.m_Game_past (ok_Game_past T) (hr.mono (by decide)) pass0 (pa_cons (pv 5) pa_nil)) (nomark _))))) pss_never pss_nil)
 (pss_cons (ps_if (pt_cmpR (op_neD hr.units) (pe_lc (own := [(("_law_deed_here" : Str), 12)]) (g := (gName 12)) (tt := tYes) rfl sc_l_apart_right.nd (pi_list (pv 11)) (blkOk_by (N := nm_l_apart_right) (sc := defScope s_l_apart_right) (by decide +kernel)) (fun _ _ _ _ _ => (pg_name (i := 12) sc_l_apart_right.nd rfl (Or.inl rfl))) (fun _ _ _ _ _ => pts_nil) (fun _ _ _ _ _ => (SlX.pe_methSl0 (pe_ix ix_list (pv 8) (pv 3) (fun _ _ => rfl)) T.c_Game T.m_Game_redo (ok_Game_redo T) (hr.mono (by decide)) passL))) (pe_revL (pv 11)) (nomark _)) pss_never pss_nil)
 (pss_one (ps_if (pt_not (pt_val (pe_clG (ok_l_stands_so T) (hr.mono (by decide)) hG rfl T.g_l_stands_so T.k_l_stands_so pass0 (pa_cons (pe_ix ix_list (pv 8) (pv 3) (fun _ _ => rfl)) (pa_cons (pv 1) (pa_cons (pv 2) (pa_cons (pe_ix ix_list (pv 9) (pv 3) (fun _ _ => rfl)) pa_nil))))))) pss_never pss_nil))))))
 (pss_one (ps_ret (pe_cmpR op_eq (pe_cmpR (SlX.op_own (fun _ _ => rfl) T.eq_Game T.fn_Game_eq (ok_Game_eq T) (hr.mono (by decide)) pass0) (pe_ix ix_list (pv 8) pe_int (fun _ _ => rfl)) (pe_ix ix_list (pv 8) pe_int (fun _ _ => rfl)) (nomark _)) (pe_cmpR (op_eqD hr.units) (pe_ix ix_list (pv 9) pe_int (fun _ _ => rfl)) (pe_ix ix_list (pv 9) pe_int (fun _ _ => rfl)) (nomark _)) (nomark _))))))))))))), pure_l_apart_right T vs H Q E h⟩
end
end Sw
namespace Sw
open PySem PySem.Spec PyProof.Rows L2
open SX (S S_cat S_len S_inj)
open SlX (SlO SlR putS slH)
/-! # the law -/
def hfs (hs : List Int) : List Deed := (hs.map fun s => [Deed.hold s.toNat, .free s.toNat]).flatten
theorem hfs_snoc {hs : List Int} {j m : Nat} (h : hs[j]? = some (m : Int)) : hfs (hs.take (j + 1)) = hfs (hs.take j) ++ [.hold m] ++ [.free m] := by
  unfold hfs
  rw [take_snoc h]
  simp
theorem hfs_len {hs : List Int} : (hfs hs).length = 2 * hs.length := by
  unfold hfs
  induction hs with
  | nil => rfl
  | cons a l ih => simp at ih ⊢; omega
theorem srt_nil : srt [] = [] := (srt_uniq (List.Perm.refl _) List.Pairwise.nil).symm
theorem srt_one {i : Int} : srt [i] = [i] := (srt_uniq (List.Perm.refl _) (List.pairwise_singleton _ _)).symm
theorem ap_hold {tab : List Nat} {r : Nat} {t : List Nat} {m : Nat} : ap (mom0 tab r t) (.hold m) = ⟨tab, r, t, [(m : Int)], 0⟩ := by
  show (⟨tab, r, t, srt [(m : Int)], 0⟩ : Mom) = _
  rw [srt_one]
theorem ap_free {tab : List Nat} {r : Nat} {t : List Nat} {m : Nat} : ap ⟨tab, r, t, [(m : Int)], 0⟩ (.free m) = mom0 tab r t := by
  show (⟨tab, r, t, [(m : Int)].filter fun s => !decide (s = (m : Int)), 0⟩ : Mom) = _
  rw [show ([(m : Int)].filter fun s => !decide (s = (m : Int))) = [] by simp]
  rfl
theorem hfs_mom {tab : List Nat} {r : Nat} {t : List Nat} {hs : List Int} (h0 : ∀ s ∈ hs, 0 ≤ s) : ∀ j, j ≤ hs.length → replay (mom0 tab r t) (hfs (hs.take j)) = mom0 tab r t := by
  intro j
  induction j with
  | zero => intro _; rfl
  | succ j ih =>
    intro hj
    have e : hs[j]? = some hs[j] := List.getElem?_eq_getElem (by omega)
    obtain ⟨m, hm⟩ := Int.eq_ofNat_of_zero_le (h0 _ (List.getElem_mem (by omega : j < hs.length)))
    rw [hm] at e
    rw [hfs_snoc e, replay_snoc, replay_snoc, ih (by omega), ap_hold, ap_free]
theorem hfs_ok {n r : Nat} {tab : List Nat} {t : List Nat} {hs : List Int} {ds : List Deed} (ht : OkTab tab) (hr : r ≤ 2) (hn : t.length = n) (h0 : t ≠ []) (h1 : n ≤ 12) (okt : OkT r t) (st : Stub t hs) (hl : hs.length ≤ n) (wf : ∀ d ∈ ds, Wf n r d) (hd : ds.length ≤ 60) (j : Nat) : GsOk n r ⟨tab, r, t, hfs (hs.take j) ++ ds, []⟩ where
  rr := rfl
  r2 := hr
  tab := ht
  n0 := by have := List.length_pos_iff.mpr h0; omega
  n1 := by omega
  len := hn
  ok := okt
  log := fun d hd => by
    rcases List.mem_append.mp hd with hd | hd
    · obtain ⟨l, hl, hd⟩ := List.mem_flatten.mp hd
      obtain ⟨s, hs', rfl⟩ := List.mem_map.mp hl
      obtain ⟨h0, h1, h2⟩ := st.2 s (List.mem_of_mem_take hs')
      have : s.toNat < n := by omega
      simp only [List.mem_cons, List.not_mem_nil, or_false] at hd
      rcases hd with rfl | rfl
      · exact this
      · exact this
    · exact wf d hd
  gone := by simp
  sz := by
    have : (hs.take j).length ≤ hs.length := by rw [List.length_take]; omega
    simp [hfs_len]
    omega
section
variable {K : PySem.W.Frag} {w : World} {mg : Str → Option Value} {N : Nm} {base : Heap}
def sp_law (K : PySem.W.Frag) (N : Nm) : Sp := fun vs H Q E => ∃ (a : Addr) (ns : List Int), vs = [.ref a] ∧ SqL K H a (ns.map V.int) ∧ ns.length ≤ 63 ∧ ∀ H', Q (.bl true) H'
def t_law (K : PySem.W.Frag) (N : Nm) : TS :=
 (tSeq (tAsg (tCl (sp_l_bag K N) E0 (tCons (tVar 0) tNil)) (gName 1))
 (tSeq (tFor (iRng1 (tCons (tC (.int 3)) tNil)) (gName 2)
 ((tSeq (tAsg (tCl (sp_l_begun K N) E0 (tCons (tVar 1) tNil)) (gTup K 2 (gCons (gName 5) (gCons (gName 6) gNil))))
 (tSeq (tPar 7 8 (tCons (tCl (sp_l_made_rule K N) E0 (tCons (tVar 5) tNil)) (tCons (tCl (sp_l_seats K N) E0 (tCons (tVar 1) (tCons (tVar 6) tNil))) tNil)))
 (tSeq (tIfS (tOr (tNot (tB (tCl (sp_l_beats_right K N) E0 (tCons (tVar 1) (tCons (tVar 7) (tCons (tVar 6) (tCons (tVar 8) tNil))))))) (tNot (tB (tCl (sp_l_turns_right K N) E0 (tCons (tVar 1) (tCons (tVar 7) (tCons (tVar 6) (tCons (tVar 8) tNil))))))))
 tNever tNext)
 (tSeq (tIfS (tNot (tB (tCl (sp_l_apart_right K N) E0 (tCons (tVar 1) (tCons (tVar 5) (tCons (tVar 6) tNil))))))
 tNever tNext)
 (tSeq (tAsg (StX.tMakeR N.Game (sp_Game_init K N) E0 (tCons (tVar 7) (tCons (tVar 6) tNil))) (gName 3))
 (tSeq (tFor (iList K (tVar 8)) (gName 4)
 ((tSeq (tDrop (SlX.tMethSl N.Game (sp_Game_do K N) E0 (tVar 3) (tCons (tTup (tCons (tC (.str (S [104, 111, 108, 100]))) (tCons (tVar 4) tNil))) tNil)))
 (tDrop (SlX.tMethSl N.Game (sp_Game_do K N) E0 (tVar 3) (tCons (tTup (tCons (tC (.str (S [102, 114, 101, 101]))) (tCons (tVar 4) tNil))) tNil))))))
 (tIfS (tOr (tTest (tOp rNeX (SlX.tPropSl N.Game (sp_Game_text K N) E0 (tVar 3)) (tVar 6))) (tOr (tTest (tOp (rNeD K) (SlX.tMethSl N.Game (sp_Game_held K N) E0 (tVar 3) tNil) (tLst tNil))) (tTest (tOp rNeI (tCB (rLenOwn N.Game (sp_Game_len K N) E0) (tCons (tVar 3) tNil)) (tOp rMulI (tC (.int 2)) (tCB (rLenQ K) (tCons (tVar 8) tNil)))))))
 tNever tNext)))))))))
 (tRet (tC (.bl true)))))
theorem pure_law (T : Txt K w mg N) (vs : List V) (H : Hp) (Q : VK) (E : XK) (h : sp_law K N vs H Q E) : t_law K N (Eo Q) (start nm_law vs) H := by
  obtain ⟨a, ns, rfl, sq, hl, q⟩ := h
  refine ⟨_, rfl, a, ns, rfl, sq, hl, fun H1 b cl bag1 k1 hb hcl => ?_⟩
  clear k1 hb hcl
  refine ⟨3, rfl, by decide, by decide, ?_⟩
  refine for_range (fun i σ H' => ∃ v2 v3 v4 v5 v6 v7 v8, σ = [some (.ref a), some (.ref b), v2, v3, v4, v5, v6, v7, v8] ∧ BagAt H' b cl) ⟨none, none, none, none, none, none, none, rfl, bag1⟩ ?_ ?_
  · rintro i σ H1 hi ⟨v2, v3, v4, v5, v6, v7, v8, rfl, bag1⟩
    refine ⟨_, rfl, b, cl, rfl, bag1, fun p mp tab r t H2 ht hr hne hlt okt ep emp bag2 k2 => ⟨p, _, rfl, .of ep, rfl, _, _, rfl, _, _, rfl, rfl, ?_⟩⟩
    refine ⟨_, rfl, mp, tab, r, rfl, emp, ht, hr, fun ra H3 rat k3 => ?_⟩
    have emp3 := k3 _ _ emp (.inr Prm.tup)
    refine ⟨_, rfl, _, rfl, b, cl, t, rfl, bag2.keep k3 (by simp) (by simp), by omega, fun hs l H4 st hsl el fr bag4 k4 => ⟨_, _, rfl, ?_⟩⟩
    have emp4 := k4 _ _ emp3 (.inr Prm.tup)
    have rat4 := rat.keep k4
    clear k2 k3 k4 rat emp emp3 ep fr bag2 bag1
    have hlb : l ≠ b := bag4.ne_ints el
    have h0 : ∀ s ∈ hs, 0 ≤ s := fun s h => (st.2 s h).1
    refine ⟨_, rfl, _, rfl, _, rfl, _, rfl, b, cl, ra, tab, r, t, l, hs, rfl, bag4, rat4, ht, hr, hne, by omega, okt, el, st, hsl, fun H5 bag5 k5 => ⟨_, rfl, if_f rfl ?_⟩⟩
    have emp5 := k5 _ _ emp4 (.inr Prm.tup)
    have rat5 := rat4.keep k5
    have el5 := k5 _ _ el (.inl (by simp [hlb]))
    refine ⟨_, rfl, _, rfl, _, rfl, _, rfl, b, cl, ra, tab, r, t, l, hs, rfl, bag5, rat5, ht, hr, hne, by omega, okt, el5, st, hsl, fun H6 bag6 k6 => ⟨_, rfl, if_f rfl ?_⟩⟩
    have emp6 := k6 _ _ emp5 (.inr Prm.tup)
    have rat6 := rat5.keep k6
    have el6 := k6 _ _ el5 (.inl (by simp [hlb]))
    refine ⟨_, rfl, _, rfl, _, rfl, b, cl, mp, tab, r, t, rfl, bag6, emp6, ht, hr, hne, by omega, okt, fun H7 bag7 k7 => ⟨_, rfl, if_f rfl ?_⟩⟩
    have rat7 := rat6.keep k7
    have el7 := k7 _ _ el6 (.inl (by simp [hlb]))
    clear k5 k6 k7 emp4 emp5 emp6 rat4 rat5 rat6 el el5 el6 bag4 bag5 bag6
    -- the last game
    have M7 : Gms N H7 [] H7 [] [] := Gms.nil (by simp)
    refine ⟨_, rfl, _, rfl, fun g dx f1 f2 f3 => mk_game M7 rat7 hr hne (by omega) okt f1 f2 f3 fun H8 M8 k8 => ⟨rfl, ?_⟩⟩
    clear f1 f2 f3
    have el8 := k8 _ _ el7 (.inl (by simp))
    refine ⟨_, rfl, l, rfl, ⟨_, .of el8⟩, ?_⟩
    refine for_list (xs := hs.map V.int) (fun j σ H' => ∃ v2 v4, σ = [some (.ref a), some (.ref b), v2, some (.ref g), v4, some (.ref mp), some (.str (S t)), some (.ref ra), some (.ref l)] ∧ Gms N H7 [] H' [(g, ⟨tab, r, t, hfs (hs.take j), []⟩)] []) ⟨_, _, rfl, M8⟩ (fun j σ H' _ ⟨_, _, _, M⟩ => .of (M.kp _ _ el7 (.inl (by simp)))) ?_ ?_
    · rintro j x σ H9 hx ⟨v2, v4, rfl, M9⟩
      obtain ⟨s, hs1, rfl⟩ := int_at hx
      have hm := List.mem_of_getElem? hs1
      obtain ⟨m, rfl⟩ := Int.eq_ofNat_of_zero_le (h0 s hm)
      have hj := (List.getElem?_eq_some_iff.mp hs1).1
      have hmt : m < t.length := by have := (st.2 _ hm).2.1; omega
      have h48 : t.getD m 0 = 48 := (st.2 _ hm).2.2
      have hlen : (hfs (hs.take j)).length ≤ 24 := by
        have : (hs.take j).length ≤ hs.length := by rw [List.length_take]; omega
        rw [hfs_len]
        omega
      have ok9 : GsOk t.length r ⟨tab, r, t, hfs (hs.take j), []⟩ := by
        have := hfs_ok (ds := []) ht hr rfl hne hlt okt st hsl (by simp) (by simp) j
        rw [List.append_nil] at this
        exact this
      have can : canDo (replay (mom0 tab r t) (hfs (hs.take j))) (.hold m) = true := by
        rw [hfs_mom h0 j (by omega)]
        show (!decide ((m : Int) ∈ ([] : List Int)) && decide (t.getD m 0 = 48)) = true
        rw [h48]
        rfl
      obtain ⟨dx, ws, slt⟩ := M9.slt (i := 0) rfl
      refine ⟨_, rfl, g, dx, ws, rfl, slt, _, rfl, by show 2 ≤ sizeLine; decide, fun p hp => ?_⟩
      refine do_deed (D := .hold m) (i := 0) M9 rfl ok9 (by show (hfs (hs.take j)).length < 190; omega) hmt can hp fun H10 M10 => ?_
      have M10' : Gms N H7 [] H10 [(g, ⟨tab, r, t, hfs (hs.take j) ++ [.hold m], []⟩)] [] := M10
      have ok10 : GsOk t.length r ⟨tab, r, t, hfs (hs.take j) ++ [.hold m], []⟩ := hfs_ok ht hr rfl hne hlt okt st hsl (fun d hd => by rw [List.mem_singleton.mp hd]; exact hmt) (by simp) j
      have can2 : canDo (replay (mom0 tab r t) (hfs (hs.take j) ++ [.hold m])) (.free m) = true := by
        rw [replay_snoc, hfs_mom h0 j (by omega), ap_hold]
        show decide ((m : Int) ∈ [(m : Int)]) = true
        simp
      obtain ⟨dx, ws, slt⟩ := M10'.slt (i := 0) rfl
      refine ⟨_, rfl, g, dx, ws, rfl, slt, _, rfl, by show 2 ≤ sizeLine; decide, fun p hp => ?_⟩
      refine do_deed (D := .free m) (i := 0) M10' rfl ok10 (by show (hfs (hs.take j) ++ [Deed.hold m]).length < 190; simp; omega) hmt can2 hp fun H11 M11 => ?_
      refine ⟨_, _, rfl, ?_⟩
      rw [hfs_snoc hs1]
      exact M11
    rintro σ H9 ⟨v2, v4, rfl, M9⟩
    rw [List.length_map] at M9
    have mom9 : (⟨tab, r, t, hfs (hs.take hs.length), []⟩ : GS).mom = mom0 tab r t := hfs_mom h0 _ (Nat.le_refl _)
    have len9 : (⟨tab, r, t, hfs (hs.take hs.length), []⟩ : GS).log.length = 2 * hs.length := by
      show (hfs (hs.take hs.length)).length = _
      rw [hfs_len, List.length_take, Nat.min_self]
    obtain ⟨own, ga⟩ := M9.game (i := 0) rfl
    obtain ⟨dx, ws, slt⟩ := ga.slt
    refine ⟨_, rfl, g, dx, ws, rfl, slt, g, own, _, rfl, ga, ?_⟩
    rw [mom9]
    refine ⟨_, rfl, t, t, rfl, rfl, _, rfl, if_f (by rw [dec_rfl]; rfl) ?_⟩
    refine ⟨_, rfl, g, dx, ws, rfl, slt, g, own, _, rfl, ga, fun p1 hp1 => ?_⟩
    rw [mom9]
    have k10 : Kp N [] H9 (upd H9 p1 (.lst [])) := Kp.refl.new hp1
    have e1 : (upd H9 p1 (.lst [])) p1 = some (.lst []) := upd_same
    refine ⟨by show 0 ≤ sizeLine; decide, fun p2 hp2 => ?_⟩
    have M10 := M9.same k10
    have k11 : Kp N [] _ (upd (upd H9 p1 (.lst [])) p2 (.lst [])) := Kp.refl.new hp2
    have e1' := k11 _ _ e1 (.inl (by simp))
    refine ⟨.list (([] : List Int).map PyData.int), .list (([] : List Int).map PyData.int), .lst (.of e1') .nil, .lst (.of upd_same) .nil, rfl, rfl, _, rfl, ?_⟩
    rw [eqv_ints, dec_rfl]
    refine if_f rfl ?_
    have M11 := M10.same k11
    have el11 := M11.kp _ _ el7 (.inl (by simp))
    obtain ⟨own, ga⟩ := M11.game (i := 0) rfl
    obtain ⟨dx, ws, slt⟩ := ga.slt
    refine ⟨_, rfl, g, dx, ws, rfl, slt, g, own, _, rfl, ga, _, rfl, by omega, by rw [len9]; omega, ?_⟩
    refine ⟨_, rfl, l, _, rfl, .inl (.of el11), 2, _, rfl, rfl, .inl ⟨by decide, by decide⟩, _, _, rfl, rfl, _, rfl, ?_⟩
    refine if_f (by rw [len9, List.length_map]; simp) ?_
    exact ⟨_, _, _, _, _, _, _, rfl, bag7.keep M11.kp (by simp) (by simp)⟩
  · rintro σ H1 ⟨v2, v3, v4, v5, v6, v7, v8, rfl, bag1⟩
    exact q H1
theorem ok_law (T : Txt K w mg N) : FnG Pw w K mg base CX0 20 N.law (sp_law K N) := by
  obtain ⟨fd, F, b⟩ := T.d_law
  exact mk_fnG F b sc_law (fun vs H Q E h => by (repeat (first | (obtain ⟨rfl, _⟩ := h; rfl) | (obtain ⟨_, h⟩ := h)))) fun cdv A outer s H vs Q E hr hG h => ⟨t_law K N, (PSs.nox (by exact (pss_cons (ps_set (i := 1) sc_law.nd rfl (Or.inl rfl) (pe_cl (ok_l_bag T) (hr.mono (by decide)) rfl T.g_l_bag T.k_l_bag pass0 (pa_cons (pv 0) pa_nil)))
 (pss_cons (ps_for PassesOwn.never rfl (pi_range1 rfl T.n_range (pa_cons pe_int pa_nil)) (pg_name (i := 2) sc_law.nd rfl (Or.inl rfl))
 (pss_cons (ps_asg (pe_cl (ok_l_begun T) (hr.mono (by decide)) rfl T.g_l_begun T.k_l_begun pass0 (pa_cons (pv 1) pa_nil)) (pg_tup rfl (pgs_cons (pg_name (i := 5) sc_law.nd rfl (Or.inl rfl)) (pgs_cons (pg_name (i := 6) sc_law.nd rfl (Or.inl rfl)) pgs_nil))))
 (pss_cons (ps_par (i := 7) (j := 8) rfl sc_law.nd rfl rfl (by decide) rfl rfl (pa_cons (pe_cl (ok_l_made_rule T) (hr.mono (by decide)) rfl T.g_l_made_rule T.k_l_made_rule pass0 (pa_cons (pv 5) pa_nil)) (pa_cons (pe_cl (ok_l_seats T) (hr.mono (by decide)) rfl T.g_l_seats T.k_l_seats pass0 (pa_cons (pv 1) (pa_cons (pv 6) pa_nil))) pa_nil)) rfl)
 (pss_cons (ps_if (PW.pt (pw_or (pt_not (pt_val (pe_clG (ok_l_beats_right T) (hr.mono (by decide)) hG rfl T.g_l_beats_right T.k_l_beats_right pass0 (pa_cons (pv 1) (pa_cons (pv 7) (pa_cons (pv 6) (pa_cons (pv 8) pa_nil))))))) (pw_or1 (pt_not (pt_val (pe_cl (ok_l_turns_right T) (hr.mono (by decide)) rfl T.g_l_turns_right T.k_l_turns_right pass0 (pa_cons (pv 1) (pa_cons (pv 7) (pa_cons (pv 6) (pa_cons (pv 8) pa_nil)))))))))) pss_never pss_nil)
 (pss_cons (ps_if (pt_not (pt_val (pe_clG (ok_l_apart_right T) (hr.mono (by decide)) hG rfl T.g_l_apart_right T.k_l_apart_right pass0 (pa_cons (pv 1) (pa_cons (pv 5) (pa_cons (pv 6) pa_nil)))))) pss_never pss_nil)
 (pss_cons (ps_set (i := 3) sc_law.nd rfl (Or.inl rfl) (StX.pe_makeR T.mk_Game (ok_Game_init T) (hr.mono (by decide)) rfl T.g_Game pass0 (pa_cons (pv 7) (pa_cons (pv 6) pa_nil))))
 (pss_cons (ps_for PassesOwn.never rfl (pi_list (pv 8)) (pg_name (i := 4) sc_law.nd rfl (Or.inl rfl))
 (pss_cons (ps_expr (SlX.pe_methSl (pv 3) T.c_Game T.m_Game_do (ok_Game_do T) (hr.mono (by decide)) passL (pa_cons (pe_tup (pa_cons (pe_lit (l := [104, 111, 108, 100]) (by decide +kernel)) (pa_cons (pv 4) pa_nil))) pa_nil)))
 (pss_one (ps_expr (SlX.pe_methSl (pv 3) T.c_Game T.m_Game_do (ok_Game_do T) (hr.mono (by decide)) passL (pa_cons (pe_tup (pa_cons (pe_lit (l := [102, 114, 101, 101]) (by decide +kernel)) (pa_cons (pv 4) pa_nil))) pa_nil))))))
 (pss_one (ps_if (PW.pt (pw_or (pt_cmpR op_neX (SlX.pe_propSl (pv 3) T.c_Game T.p_Game_text.at_ T.p_Game_text.get T.p_Game_text.tak T.p_Game_text.rec_ (ok_Game_text T) (hr.mono (by decide)) (fun _ _ _ _ z => z)) (pv 6) (nomark _)) (pw_or (pt_cmpR (op_neD hr.units) (SlX.pe_methSl0 (pv 3) T.c_Game T.m_Game_held (ok_Game_held T) (hr.mono (by decide)) pass0) (pe_lst pa_nil) (nomark _)) (pw_or1 (pt_cmpR op_neI (pe_callB (call_lenOwn T.len_Game T.fn_Game_len (ok_Game_len T) (hr.mono (by decide)) pass0) rfl T.n_len bt_len (pa_cons (pv 3) pa_nil)) (pe_op op_mul pe_int (pe_callB call_len_seq rfl T.n_len bt_len (pa_cons (pv 8) pa_nil))) (nomark _)))))) pss_never pss_nil)))))))))
 (pss_one (ps_ret pe_bl)))))), pure_law T vs H Q E h⟩
end
end Sw
namespace Sw
open PySem PySem.Spec PyProof.Rows L2
open SX (S S_cat S_len S_inj)
/-! # the head: what is told of the names -/
/-- the getter of the property f of C -/
def pgA (K : PySem.W.Frag) (C f : Str) : Addr := match PySem.W.recIn K (He.ma K (He.ga K C) f) "property" with
  | some (.ref g :: _) => g
  | _ => 0
def mkN (K : PySem.W.Frag) (we : Array DictEntry) (wn : Nat) : Nm :=
  { is_integer := He.ga K "is_integer",
    is_count := He.ga K "is_count",
    is_number := He.ga K "is_number",
    is_row := He.ga K "is_row",
    is_stand := He.ga K "is_stand",
    is_table := He.ga K "is_table",
    sign_after := He.ga K "sign_after",
    row_after_beat := He.ga K "row_after_beat",
    Rule_init := He.ma K (He.ga K "Rule") "__init__",
    Rule_table := pgA K "Rule" "table",
    Rule_rests := pgA K "Rule" "rests",
    Rule_signs := pgA K "Rule" "signs",
    Rule_ring_after := He.ma K (He.ga K "Rule") "ring_after",
    Rule_eq := He.ma K (He.ga K "Rule") "__eq__",
    turned_by := He.ga K "turned_by",
    are_stubborn := He.ga K "are_stubborn",
    held_beat := He.ga K "held_beat",
    need_seats := He.ga K "need_seats",
    held_after := He.ga K "held_after",
    Moment_init := He.ma K (He.ga K "Moment") "__init__",
    Moment_can_do := He.ma K (He.ga K "Moment") "can_do",
    Moment_do := He.ma K (He.ga K "Moment") "do",
    Game_init := He.ma K (He.ga K "Game") "__init__",
    Game_text := pgA K "Game" "text",
    Game_rule := pgA K "Game" "rule",
    Game_beats := pgA K "Game" "beats",
    Game_len := He.ma K (He.ga K "Game") "__len__",
    Game_held := He.ma K (He.ga K "Game") "held",
    Game_is_seat := He.ma K (He.ga K "Game") "is_seat",
    Game_is_deed := He.ma K (He.ga K "Game") "is_deed",
    Game_do := He.ma K (He.ga K "Game") "do",
    Game_log := He.ma K (He.ga K "Game") "log",
    Game_moment_behind := He.ma K (He.ga K "Game") "moment_behind",
    Game_undo := He.ma K (He.ga K "Game") "undo",
    Game_redo := He.ma K (He.ga K "Game") "redo",
    Game_past := He.ma K (He.ga K "Game") "past",
    Game_copied := He.ma K (He.ga K "Game") "copied",
    Game_eq := He.ma K (He.ga K "Game") "__eq__",
    after := He.ga K "after",
    l_bag := He.ga K "_law_bag",
    l_take := He.ga K "_law_take",
    l_alike := He.ga K "_law_alike",
    l_mixed := He.ga K "_law_mixed",
    l_pick := He.ga K "_law_pick",
    l_table := He.ga K "_law_table",
    l_rule := He.ga K "_law_rule",
    l_text := He.ga K "_law_text",
    l_beat := He.ga K "_law_beat",
    l_turned := He.ga K "_law_turned",
    l_signs := He.ga K "_law_signs",
    l_made_rule := He.ga K "_law_made_rule",
    l_seats := He.ga K "_law_seats",
    l_held_beat := He.ga K "_law_held_beat",
    l_moment := He.ga K "_law_moment",
    l_deed := He.ga K "_law_deed",
    l_can_do := He.ga K "_law_can_do",
    l_did := He.ga K "_law_did",
    l_stands_so := He.ga K "_law_stands_so",
    l_turned_back := He.ga K "_law_turned_back",
    l_led := He.ga K "_law_led",
    l_begun := He.ga K "_law_begun",
    l_beats_right := He.ga K "_law_beats_right",
    l_turns_right := He.ga K "_law_turns_right",
    l_apart_right := He.ga K "_law_apart_right",
    law := He.ga K "law",
    WaveError := He.ga K "WaveError",
    Wrong := He.ga K "Wrong",
    NoSeats := He.ga K "NoSeats",
    NoDeed := He.ga K "NoDeed",
    Full := He.ga K "Full",
    Refused := He.ga K "Refused",
    Nothing := He.ga K "Nothing",
    NoEntry := He.ga K "NoEntry",
    Rule := He.ga K "Rule",
    Moment := He.ga K "Moment",
    Game := He.ga K "Game",
    q_Game_beats := He.ma K (He.ga K "Game") "beats",
    q_Game_rule := He.ma K (He.ga K "Game") "rule",
    q_Game_text := He.ma K (He.ga K "Game") "text",
    q_Rule_rests := He.ma K (He.ga K "Rule") "rests",
    q_Rule_signs := He.ma K (He.ga K "Rule") "signs",
    q_Rule_table := He.ma K (He.ga K "Rule") "table",
    Refused_init := He.ma K (He.ga K "Refused") "__init__",
    Nothing_init := He.ma K (He.ga K "Nothing") "__init__",
    WORDS := He.ga K "WORDS",
    we := we,
    wn := wn }
/-! ## the defs -/
def dA_is_integer : He5.DefA := ⟨fun K => He.ga K "is_integer", "is_integer", "is_integer", defArgs s_is_integer, defBody s_is_integer, defScope s_is_integer, [], []⟩
def dA_is_count : He5.DefA := ⟨fun K => He.ga K "is_count", "is_count", "is_count", defArgs s_is_count, defBody s_is_count, defScope s_is_count, [], []⟩
def dA_is_number : He5.DefA := ⟨fun K => He.ga K "is_number", "is_number", "is_number", defArgs s_is_number, defBody s_is_number, defScope s_is_number, [], []⟩
def dA_is_row : He5.DefA := ⟨fun K => He.ga K "is_row", "is_row", "is_row", defArgs s_is_row, defBody s_is_row, defScope s_is_row, [], []⟩
def dA_is_stand : He5.DefA := ⟨fun K => He.ga K "is_stand", "is_stand", "is_stand", defArgs s_is_stand, defBody s_is_stand, defScope s_is_stand, [], []⟩
def dA_is_table : He5.DefA := ⟨fun K => He.ga K "is_table", "is_table", "is_table", defArgs s_is_table, defBody s_is_table, defScope s_is_table, [], []⟩
def dA_sign_after : He5.DefA := ⟨fun K => He.ga K "sign_after", "sign_after", "sign_after", defArgs s_sign_after, defBody s_sign_after, defScope s_sign_after, [], []⟩
def dA_row_after_beat : He5.DefA := ⟨fun K => He.ga K "row_after_beat", "row_after_beat", "row_after_beat", defArgs s_row_after_beat, defBody s_row_after_beat, defScope s_row_after_beat, [], []⟩
def dA_Rule_init : He5.DefA := ⟨fun K => He.ma K (He.ga K "Rule") "__init__", "__init__", "Rule.__init__", defArgs s_Rule_init, defBody s_Rule_init, defScope s_Rule_init, [He.Dv.int 1], []⟩
def dA_Rule_table : He5.DefA := ⟨fun K => pgA K "Rule" "table", "table", "Rule.table", defArgs s_Rule_table, defBody s_Rule_table, defScope s_Rule_table, [], []⟩
def dA_Rule_rests : He5.DefA := ⟨fun K => pgA K "Rule" "rests", "rests", "Rule.rests", defArgs s_Rule_rests, defBody s_Rule_rests, defScope s_Rule_rests, [], []⟩
def dA_Rule_signs : He5.DefA := ⟨fun K => pgA K "Rule" "signs", "signs", "Rule.signs", defArgs s_Rule_signs, defBody s_Rule_signs, defScope s_Rule_signs, [], []⟩
def dA_Rule_ring_after : He5.DefA := ⟨fun K => He.ma K (He.ga K "Rule") "ring_after", "ring_after", "Rule.ring_after", defArgs s_Rule_ring_after, defBody s_Rule_ring_after, defScope s_Rule_ring_after, [], []⟩
def dA_Rule_eq : He5.DefA := ⟨fun K => He.ma K (He.ga K "Rule") "__eq__", "__eq__", "Rule.__eq__", defArgs s_Rule_eq, defBody s_Rule_eq, defScope s_Rule_eq, [], []⟩
def dA_turned_by : He5.DefA := ⟨fun K => He.ga K "turned_by", "turned_by", "turned_by", defArgs s_turned_by, defBody s_turned_by, defScope s_turned_by, [], []⟩
def dA_are_stubborn : He5.DefA := ⟨fun K => He.ga K "are_stubborn", "are_stubborn", "are_stubborn", defArgs s_are_stubborn, defBody s_are_stubborn, defScope s_are_stubborn, [], []⟩
def dA_held_beat : He5.DefA := ⟨fun K => He.ga K "held_beat", "held_beat", "held_beat", defArgs s_held_beat, defBody s_held_beat, defScope s_held_beat, [], []⟩
def dA_need_seats : He5.DefA := ⟨fun K => He.ga K "need_seats", "need_seats", "need_seats", defArgs s_need_seats, defBody s_need_seats, defScope s_need_seats, [], []⟩
def dA_held_after : He5.DefA := ⟨fun K => He.ga K "held_after", "held_after", "held_after", defArgs s_held_after, defBody s_held_after, defScope s_held_after, [], []⟩
def dA_Moment_init : He5.DefA := ⟨fun K => He.ma K (He.ga K "Moment") "__init__", "__init__", "Moment.__init__", defArgs s_Moment_init, defBody s_Moment_init, defScope s_Moment_init, [], []⟩
def dA_Moment_can_do : He5.DefA := ⟨fun K => He.ma K (He.ga K "Moment") "can_do", "can_do", "Moment.can_do", defArgs s_Moment_can_do, defBody s_Moment_can_do, defScope s_Moment_can_do, [], []⟩
def dA_Moment_do : He5.DefA := ⟨fun K => He.ma K (He.ga K "Moment") "do", "do", "Moment.do", defArgs s_Moment_do, defBody s_Moment_do, defScope s_Moment_do, [], []⟩
def dA_Game_init : He5.DefA := ⟨fun K => He.ma K (He.ga K "Game") "__init__", "__init__", "Game.__init__", defArgs s_Game_init, defBody s_Game_init, defScope s_Game_init, [], []⟩
def dA_Game_text : He5.DefA := ⟨fun K => pgA K "Game" "text", "text", "Game.text", defArgs s_Game_text, defBody s_Game_text, defScope s_Game_text, [], []⟩
def dA_Game_rule : He5.DefA := ⟨fun K => pgA K "Game" "rule", "rule", "Game.rule", defArgs s_Game_rule, defBody s_Game_rule, defScope s_Game_rule, [], []⟩
def dA_Game_beats : He5.DefA := ⟨fun K => pgA K "Game" "beats", "beats", "Game.beats", defArgs s_Game_beats, defBody s_Game_beats, defScope s_Game_beats, [], []⟩
def dA_Game_len : He5.DefA := ⟨fun K => He.ma K (He.ga K "Game") "__len__", "__len__", "Game.__len__", defArgs s_Game_len, defBody s_Game_len, defScope s_Game_len, [], []⟩
def dA_Game_held : He5.DefA := ⟨fun K => He.ma K (He.ga K "Game") "held", "held", "Game.held", defArgs s_Game_held, defBody s_Game_held, defScope s_Game_held, [], []⟩
def dA_Game_is_seat : He5.DefA := ⟨fun K => He.ma K (He.ga K "Game") "is_seat", "is_seat", "Game.is_seat", defArgs s_Game_is_seat, defBody s_Game_is_seat, defScope s_Game_is_seat, [], []⟩
def dA_Game_is_deed : He5.DefA := ⟨fun K => He.ma K (He.ga K "Game") "is_deed", "is_deed", "Game.is_deed", defArgs s_Game_is_deed, defBody s_Game_is_deed, defScope s_Game_is_deed, [], []⟩
def dA_Game_do : He5.DefA := ⟨fun K => He.ma K (He.ga K "Game") "do", "do", "Game.do", defArgs s_Game_do, defBody s_Game_do, defScope s_Game_do, [], []⟩
def dA_Game_log : He5.DefA := ⟨fun K => He.ma K (He.ga K "Game") "log", "log", "Game.log", defArgs s_Game_log, defBody s_Game_log, defScope s_Game_log, [], []⟩
def dA_Game_moment_behind : He5.DefA := ⟨fun K => He.ma K (He.ga K "Game") "moment_behind", "moment_behind", "Game.moment_behind", defArgs s_Game_moment_behind, defBody s_Game_moment_behind, defScope s_Game_moment_behind, [], []⟩
def dA_Game_undo : He5.DefA := ⟨fun K => He.ma K (He.ga K "Game") "undo", "undo", "Game.undo", defArgs s_Game_undo, defBody s_Game_undo, defScope s_Game_undo, [], []⟩
def dA_Game_redo : He5.DefA := ⟨fun K => He.ma K (He.ga K "Game") "redo", "redo", "Game.redo", defArgs s_Game_redo, defBody s_Game_redo, defScope s_Game_redo, [], []⟩
def dA_Game_past : He5.DefA := ⟨fun K => He.ma K (He.ga K "Game") "past", "past", "Game.past", defArgs s_Game_past, defBody s_Game_past, defScope s_Game_past, [], []⟩
def dA_Game_copied : He5.DefA := ⟨fun K => He.ma K (He.ga K "Game") "copied", "copied", "Game.copied", defArgs s_Game_copied, defBody s_Game_copied, defScope s_Game_copied, [], []⟩
def dA_Game_eq : He5.DefA := ⟨fun K => He.ma K (He.ga K "Game") "__eq__", "__eq__", "Game.__eq__", defArgs s_Game_eq, defBody s_Game_eq, defScope s_Game_eq, [], []⟩
def dA_after : He5.DefA := ⟨fun K => He.ga K "after", "after", "after", defArgs s_after, defBody s_after, defScope s_after, [], []⟩
def dA_l_bag : He5.DefA := ⟨fun K => He.ga K "_law_bag", "_law_bag", "_law_bag", defArgs s_l_bag, defBody s_l_bag, defScope s_l_bag, [], []⟩
def dA_l_take : He5.DefA := ⟨fun K => He.ga K "_law_take", "_law_take", "_law_take", defArgs s_l_take, defBody s_l_take, defScope s_l_take, [], []⟩
def dA_l_alike : He5.DefA := ⟨fun K => He.ga K "_law_alike", "_law_alike", "_law_alike", defArgs s_l_alike, defBody s_l_alike, defScope s_l_alike, [], []⟩
def dA_l_mixed : He5.DefA := ⟨fun K => He.ga K "_law_mixed", "_law_mixed", "_law_mixed", defArgs s_l_mixed, defBody s_l_mixed, defScope s_l_mixed, [], []⟩
def dA_l_pick : He5.DefA := ⟨fun K => He.ga K "_law_pick", "_law_pick", "_law_pick", defArgs s_l_pick, defBody s_l_pick, defScope s_l_pick, [], []⟩
def dA_l_table : He5.DefA := ⟨fun K => He.ga K "_law_table", "_law_table", "_law_table", defArgs s_l_table, defBody s_l_table, defScope s_l_table, [], []⟩
def dA_l_rule : He5.DefA := ⟨fun K => He.ga K "_law_rule", "_law_rule", "_law_rule", defArgs s_l_rule, defBody s_l_rule, defScope s_l_rule, [], []⟩
def dA_l_text : He5.DefA := ⟨fun K => He.ga K "_law_text", "_law_text", "_law_text", defArgs s_l_text, defBody s_l_text, defScope s_l_text, [], []⟩
def dA_l_beat : He5.DefA := ⟨fun K => He.ga K "_law_beat", "_law_beat", "_law_beat", defArgs s_l_beat, defBody s_l_beat, defScope s_l_beat, [], []⟩
def dA_l_turned : He5.DefA := ⟨fun K => He.ga K "_law_turned", "_law_turned", "_law_turned", defArgs s_l_turned, defBody s_l_turned, defScope s_l_turned, [], []⟩
def dA_l_signs : He5.DefA := ⟨fun K => He.ga K "_law_signs", "_law_signs", "_law_signs", defArgs s_l_signs, defBody s_l_signs, defScope s_l_signs, [], []⟩
def dA_l_made_rule : He5.DefA := ⟨fun K => He.ga K "_law_made_rule", "_law_made_rule", "_law_made_rule", defArgs s_l_made_rule, defBody s_l_made_rule, defScope s_l_made_rule, [], []⟩
def dA_l_seats : He5.DefA := ⟨fun K => He.ga K "_law_seats", "_law_seats", "_law_seats", defArgs s_l_seats, defBody s_l_seats, defScope s_l_seats, [], []⟩
def dA_l_held_beat : He5.DefA := ⟨fun K => He.ga K "_law_held_beat", "_law_held_beat", "_law_held_beat", defArgs s_l_held_beat, defBody s_l_held_beat, defScope s_l_held_beat, [], []⟩
def dA_l_moment : He5.DefA := ⟨fun K => He.ga K "_law_moment", "_law_moment", "_law_moment", defArgs s_l_moment, defBody s_l_moment, defScope s_l_moment, [], []⟩
def dA_l_deed : He5.DefA := ⟨fun K => He.ga K "_law_deed", "_law_deed", "_law_deed", defArgs s_l_deed, defBody s_l_deed, defScope s_l_deed, [], []⟩
def dA_l_can_do : He5.DefA := ⟨fun K => He.ga K "_law_can_do", "_law_can_do", "_law_can_do", defArgs s_l_can_do, defBody s_l_can_do, defScope s_l_can_do, [], []⟩
def dA_l_did : He5.DefA := ⟨fun K => He.ga K "_law_did", "_law_did", "_law_did", defArgs s_l_did, defBody s_l_did, defScope s_l_did, [], []⟩
def dA_l_stands_so : He5.DefA := ⟨fun K => He.ga K "_law_stands_so", "_law_stands_so", "_law_stands_so", defArgs s_l_stands_so, defBody s_l_stands_so, defScope s_l_stands_so, [], []⟩
def dA_l_turned_back : He5.DefA := ⟨fun K => He.ga K "_law_turned_back", "_law_turned_back", "_law_turned_back", defArgs s_l_turned_back, defBody s_l_turned_back, defScope s_l_turned_back, [], []⟩
def dA_l_led : He5.DefA := ⟨fun K => He.ga K "_law_led", "_law_led", "_law_led", defArgs s_l_led, defBody s_l_led, defScope s_l_led, [], []⟩
def dA_l_begun : He5.DefA := ⟨fun K => He.ga K "_law_begun", "_law_begun", "_law_begun", defArgs s_l_begun, defBody s_l_begun, defScope s_l_begun, [], []⟩
def dA_l_beats_right : He5.DefA := ⟨fun K => He.ga K "_law_beats_right", "_law_beats_right", "_law_beats_right", defArgs s_l_beats_right, defBody s_l_beats_right, defScope s_l_beats_right, [], []⟩
def dA_l_turns_right : He5.DefA := ⟨fun K => He.ga K "_law_turns_right", "_law_turns_right", "_law_turns_right", defArgs s_l_turns_right, defBody s_l_turns_right, defScope s_l_turns_right, [], []⟩
def dA_l_apart_right : He5.DefA := ⟨fun K => He.ga K "_law_apart_right", "_law_apart_right", "_law_apart_right", defArgs s_l_apart_right, defBody s_l_apart_right, defScope s_l_apart_right, [], []⟩
def dA_law : He5.DefA := ⟨fun K => He.ga K "law", "law", "law", defArgs s_law, defBody s_law, defScope s_law, [], []⟩
def fnS : List He5.DefA := [dA_is_integer, dA_is_count, dA_is_number, dA_is_row, dA_is_stand, dA_is_table, dA_sign_after, dA_row_after_beat, dA_Rule_init, dA_Rule_table, dA_Rule_rests, dA_Rule_signs, dA_Rule_ring_after, dA_Rule_eq, dA_turned_by, dA_are_stubborn, dA_held_beat, dA_need_seats, dA_held_after, dA_Moment_init, dA_Moment_can_do, dA_Moment_do, dA_Game_init, dA_Game_text, dA_Game_rule, dA_Game_beats, dA_Game_len, dA_Game_held, dA_Game_is_seat, dA_Game_is_deed, dA_Game_do, dA_Game_log, dA_Game_moment_behind, dA_Game_undo, dA_Game_redo, dA_Game_past, dA_Game_copied, dA_Game_eq, dA_after, dA_l_bag, dA_l_take, dA_l_alike, dA_l_mixed, dA_l_pick, dA_l_table, dA_l_rule, dA_l_text, dA_l_beat, dA_l_turned, dA_l_signs, dA_l_made_rule, dA_l_seats, dA_l_held_beat, dA_l_moment, dA_l_deed, dA_l_can_do, dA_l_did, dA_l_stands_so, dA_l_turned_back, dA_l_led, dA_l_begun, dA_l_beats_right, dA_l_turns_right, dA_l_apart_right, dA_law]
/-! ## more facts, as Bools -/
def slotB (C f : Str) (i : Nat) (K : PySem.W.Frag) : Bool := He.eqO (PySem.W.findIn K (.ref (He.ga K C)) f) (some (some (.ref (He.ma K (He.ga K C) f)))) && (He.eqO (PySem.W.specialIn K (.ref (He.ma K (He.ga K C) f)) "__get__") (some (some (.builtin "member_descriptor.__get__"))) &&
  (decide (PySem.W.takesIn K (.ref (He.ma K (He.ga K C) f)) = some true) && (decide (PySem.W.typeIn K (.ref (He.ma K (He.ga K C) f)) = some (.type "member_descriptor")) && (decide (PySem.W.slotIn K (He.ma K (He.ga K C) f) (He.ga K C) = some i) && decide (i < 1000)))))
theorem slotB_ok {C f : Str} {i : Nat} {K : PySem.W.Frag} (h : slotB C f i K = true) : SlX.Slot1 K (He.ga K C) f (He.ma K (He.ga K C) f) i := by
  obtain ⟨a1, h⟩ := He.ba h
  obtain ⟨a2, h⟩ := He.ba h
  obtain ⟨a3, h⟩ := He.ba h
  obtain ⟨a4, h⟩ := He.ba h
  obtain ⟨a5, a6⟩ := He.ba h
  exact ⟨He.eqO_ok a1, He.eqO_ok a2, of_decide_eq_true a3, of_decide_eq_true a4, of_decide_eq_true a5, of_decide_eq_true a6⟩
def sclsB (C : Str) (K : PySem.W.Frag) : Bool := PySem.W.plainGet K (He.ga K C) Str.empty && (PySem.W.isClsIn K (He.ga K C) && (PySem.W.plainOver K (He.ga K C) && He.eqO (PySem.W.findIn K (.ref (He.ga K C)) "__setattr__") (some (some (.builtin "object.__setattr__")))))
theorem sclsB_ok {C : Str} {K : PySem.W.Frag} (h : sclsB C K = true) : SlX.SCls K (He.ga K C) := by
  obtain ⟨a1, h⟩ := He.ba h
  obtain ⟨a2, h⟩ := He.ba h
  obtain ⟨a3, a4⟩ := He.ba h
  exact ⟨a1, a2, a3, He.eqO_ok a4⟩
def siB (C : Str) (K : PySem.W.Frag) : Bool := He.eqO (PySem.W.findIn K (.ref (He.ga K C)) "__class__") (some (some (.builtin "object.__class__"))) && (He.eqO (PySem.W.specialIn K (.builtin "object.__class__") "__get__") (some (some (.builtin "getset_descriptor.__get__"))) &&
  (decide (PySem.W.takesIn K (.builtin "object.__class__") = some true) && decide (PySem.W.mroIn K (He.ga K C) (.type "object") = some true)))
theorem siB_ok {C : Str} {K : PySem.W.Frag} (h : siB C K = true) : SlX.SIsi K (He.ga K C) := by
  obtain ⟨a1, h⟩ := He.ba h
  obtain ⟨a2, h⟩ := He.ba h
  obtain ⟨a3, a4⟩ := He.ba h
  exact ⟨He.eqO_ok a1, He.eqO_ok a2, of_decide_eq_true a3, of_decide_eq_true a4⟩
def propB (C f : Str) (K : PySem.W.Frag) : Bool := He.eqO (PySem.W.findIn K (.ref (He.ga K C)) f) (some (some (.ref (He.ma K (He.ga K C) f)))) && (He.eqO (PySem.W.specialIn K (.ref (He.ma K (He.ga K C) f)) "__get__") (some (some (.builtin "property.__get__"))) &&
  (decide (PySem.W.takesIn K (.ref (He.ma K (He.ga K C) f)) = some true) && (match PySem.W.recIn K (He.ma K (He.ga K C) f) "property" with
    | some (.ref _ :: _) => true
    | _ => false)))
theorem propB_ok {C f : Str} {K : PySem.W.Frag} (h : propB C f K = true) : PropOf K (He.ga K C) f (He.ma K (He.ga K C) f) (pgA K C f) := by
  obtain ⟨a1, h⟩ := He.ba h
  obtain ⟨a2, h⟩ := He.ba h
  obtain ⟨a3, a4⟩ := He.ba h
  refine ⟨He.eqO_ok a1, He.eqO_ok a2, of_decide_eq_true a3, ?_⟩
  unfold pgA
  split at a4
  · rename_i g rest e
    rw [e]
    exact ⟨rest, rfl⟩
  · cases a4
def kitB (C D : Str) (b : Bool) (K : PySem.W.Frag) : Bool := decide (PySem.W.kitOne K (.ref (He.ga K C)) (.ref (He.ga K D)) = some b)
def exmB (C D : Str) (b : Bool) (K : PySem.W.Frag) : Bool := decide (PySem.W.exmOne K (.ref (He.ga K C)) (.ref (He.ga K D)) = some b)
def findB (C m : Str) (K : PySem.W.Frag) : Bool := He.eqO (PySem.W.findIn K (.ref (He.ga K C)) m) (some (some (.ref (He.ma K (He.ga K C) m))))
def isFnB (C m : Str) (K : PySem.W.Frag) : Bool := PySem.W.isFn K (.ref (He.ma K (He.ga K C) m))
def neB (C : Str) (K : PySem.W.Frag) : Bool := He.eqO (PySem.W.findIn K (.ref (He.ga K C)) "__ne__") (some (some (.builtin "object.__ne__")))
def obB (C : Str) (K : PySem.W.Frag) : Bool := decide (PySem.W.mroIn K (He.ga K C) (.type "object") = some true)
def nfB (C : Str) (K : PySem.W.Frag) : Bool := PySem.W.notFirst K (He.ga K C) (.ref (He.ga K C))
def noB (K : PySem.W.Frag) : Bool := He.eqO (PySem.W.findIn K (.ref (He.ga K "Refused")) "deed") (some none)
def distB (C D : Str) (K : PySem.W.Frag) : Bool := decide (He.ga K C ≠ He.ga K D)
def ecB (C : Str) (K : PySem.W.Frag) : Bool := He.eqO (PySem.W.findIn K (.ref (He.ga K C)) "__getattribute__") (some (some (.builtin "BaseException.__getattribute__"))) && (He.eqO (PySem.W.findIn K (.ref (He.ga K C)) "__getattr__") (some none) && (decide (PySem.W.subIn K (.ref (He.ga K C)) (.type "BaseException") = some true) &&
  (PySem.W.hasDictIn K (He.ga K C) && siB C K)))
theorem ecB_ok {C : Str} {K : PySem.W.Frag} (h : ecB C K = true) : ExcC K (He.ga K C) := by
  obtain ⟨a1, h⟩ := He.ba h
  obtain ⟨a2, h⟩ := He.ba h
  obtain ⟨a3, h⟩ := He.ba h
  obtain ⟨a4, h⟩ := He.ba h
  have s := siB_ok h
  exact ⟨He.eqO_ok a1, He.eqO_ok a2, of_decide_eq_true a3, a4, s.ca, s.cn, s.ct, s.cm⟩
def wordS : List Str := [S [98, 101, 97, 116, 115], S [115, 101, 97, 116], S [116, 117, 114, 110], S [116, 97, 98, 108, 101], S [104, 111, 108, 100], S [102, 114, 101, 101]]
def wvB (K : PySem.W.Frag) : Bool := He.valsB K (He.ga K "WORDS") (wordTab.map fun q => (S q.1, He.Dv.int q.2))
theorem wv_ok {K : PySem.W.Frag} (h : wvB K = true) : ∀ q ∈ wordTab, ∃ u, PySem.W.nsIn K (He.ga K "WORDS") (S q.1) = some (some u) ∧ RelV (.int q.2) u := fun q hq =>
  He.valsB_ok h (q := (S q.1, He.Dv.int q.2)) (List.mem_map.mpr ⟨q, hq, rfl⟩)
/-! ## the exceptions' own __init__ -/
abbrev FnI : Type := Option (Str × Str × Arguments × FuncBody × Scope × Addr × List Str × Addr)
def fnI (K : PySem.W.Frag) (a : Addr) : FnI := match K.lookup a with
  | some ⟨_, _, .func fd, _⟩ => some (fd.name, fd.qualname, fd.params, fd.body, fd.scope, fd.globals, fd.closure.map (·.1), fd.builtins)
  | _ => none
def iVal (qual : Str) (params : Arguments) (body : List Stmt) (scope : Scope) : FnI := some ("__init__", qual, params, .stmts body, scope, mainGlobals, ["__class__"], builtinsNs)
def initB (C qual : Str) (K : PySem.W.Frag) : Bool := match K.lookup (He.ma K (He.ga K C) "__init__") with
  | some ⟨_, _, .func fd, _⟩ => (match fd.defaults, fd.code, fd.closure with
    | .none, .ref cda, [(_, cc)] => PySem.W.codeIn K (.ref cda) qual && ((match K.lookup cda with
      | some ⟨_, _, .fields vs, _⟩ => (match (vs[2]? : Option Value) with
        | some (.str file _) => (Pw.main.file : Str) == file
        | _ => false)
      | _ => false) && (match K.lookup cc with
      | some ⟨_, _, .cell (some (.ref D)), _⟩ => decide (D = He.ga K C)
      | _ => false))
    | _, _, _ => false)
  | _ => false
theorem initB_ok {C qual : Str} {K : PySem.W.Frag} {params : Arguments} {body : List Stmt} {scope : Scope} (h : initB C qual K = true) (e : fnI K (He.ma K (He.ga K C) "__init__") = iVal qual params body scope) :
    ∃ oc od osl kV doc pm an cda ct cc ccl cdd vs ccs file tf cl cld csl, K.lookup (He.ma K (He.ga K C) "__init__") = some ⟨oc, od, .func (PySem.W.ksFn "__init__" qual params body scope .none kV doc pm an (.ref cda) ct cc), osl⟩ ∧ PySem.W.codeIn K (.ref cda) qual = true ∧
      K.lookup cda = some ⟨ccl, cdd, .fields vs, ccs⟩ ∧ vs[2]? = some (.str file tf) ∧ ((Pw.main.file : Str) == file) = true ∧ K.lookup cc = some ⟨cl, cld, .cell (some (.ref (He.ga K C))), csl⟩ := by
  unfold initB at h
  unfold fnI at e
  split at h
  · rename_i oc od fd osl hl
    rw [hl] at e
    split at h
    · rename_i cda x cc hd hc hcl
      obtain ⟨h1, h⟩ := He.ba h
      obtain ⟨h2, h3⟩ := He.ba h
      split at h2
      · rename_i ccl cdd vs ccs hlc
        split at h2
        · rename_i file tf hv
          split at h3
          · rename_i cl cld D csl hcc
            have hD := of_decide_eq_true h3
            subst hD
            obtain ⟨n1, n2, n3, n4, n5, n6, n7, n8, n9, n10, n11, n12, n13, n14, n15⟩ := fd
            simp only at hd hc hcl
            subst hd hc hcl
            have e2 : (some (n1, n2, n3, n4, n5, n6, [x], n15) : FnI) = (some (("__init__" : Str), qual, params, FuncBody.stmts body, scope, mainGlobals, [("__class__" : Str)], builtinsNs) : FnI) := e
            simp only [Option.some.injEq, Prod.mk.injEq, List.cons.injEq, and_true] at e2
            obtain ⟨q1, q2, q3, q4, q5, q6, q7, q8⟩ := e2
            subst q1 q2 q3 q4 q5 q6 q7 q8
            exact ⟨oc, od, osl, n9, n10, n11, n12, cda, n14, cc, ccl, cdd, vs, ccs, file, tf, cl, cld, csl, hl, h1, hlc, hv, h2, hcc⟩
          · cases h3
        · cases h2
      · cases h2
    · cases h
  · cases h
def wxB (C qual : Str) (K : PySem.W.Frag) : Bool := exOk K (He.ga K C) && (findB C "__init__" K && (decide (PySem.W.typeIn K (.ref (He.ma K (He.ga K C) "__init__")) = some (.type "function")) && (PySem.W.keepIn K (.ref (He.ga K C)) &&
  (decide (PySem.W.subIn K (.ref (He.ga K C)) (.type "BaseException") = some true) && (decide (PySem.W.subIn K (.ref (He.ga K C)) (.type "ValueError") = some true) && (decide (PySem.W.typeIn K (.ref (He.ga K C)) = some (.type "type")) &&
  (He.eqO (PySem.W.findIn K (.ref (He.ga K C)) "__setattr__") (some (some (.builtin "object.__setattr__"))) && (He.eqO (PySem.W.ks_superIn K (He.ga K C) (He.ga K C) "__init__") (some (some (.builtin "ValueError.__init__"))) &&
  (decide (PySem.W.mroIn K (He.ga K C) (.ref (He.ga K C)) = some true) && (He.eqO (PySem.W.nsIn K cStatics "thirdparty.any") (some none) && initB C qual K))))))))))
theorem wxB_ok {C qual : Str} {K : PySem.W.Frag} {params : Arguments} {body : List Stmt} {scope : Scope} (h : wxB C qual K = true) (e : fnI K (He.ma K (He.ga K C) "__init__") = iVal qual params body scope) : Wx Pw K (He.ga K C) (He.ma K (He.ga K C) "__init__") qual params body scope := by
  obtain ⟨a1, h⟩ := He.ba h
  obtain ⟨a2, h⟩ := He.ba h
  obtain ⟨a3, h⟩ := He.ba h
  obtain ⟨a4, h⟩ := He.ba h
  obtain ⟨a5, h⟩ := He.ba h
  obtain ⟨a6, h⟩ := He.ba h
  obtain ⟨a7, h⟩ := He.ba h
  obtain ⟨a8, h⟩ := He.ba h
  obtain ⟨a9, h⟩ := He.ba h
  obtain ⟨a10, h⟩ := He.ba h
  obtain ⟨a11, a12⟩ := He.ba h
  exact ⟨a1, He.eqO_ok a2, of_decide_eq_true a3, a4, of_decide_eq_true a5, of_decide_eq_true a6, of_decide_eq_true a7, He.eqO_ok a8, He.eqO_ok a9, of_decide_eq_true a10, He.eqO_ok a11, initB_ok a12 e⟩
def faS : List He.Fa := [.glo "is_integer", .glo "is_count", .glo "is_number", .glo "is_row", .glo "is_stand", .glo "is_table", .glo "sign_after", .glo "row_after_beat", .glo "turned_by", .glo "are_stubborn", .glo "held_beat", .glo "need_seats", .glo "held_after", .glo "after", .glo "_law_bag", .glo "_law_take", .glo "_law_alike", .glo "_law_mixed", .glo "_law_pick", .glo "_law_table", .glo "_law_rule", .glo "_law_text", .glo "_law_beat", .glo "_law_turned", .glo "_law_signs", .glo "_law_made_rule", .glo "_law_seats", .glo "_law_held_beat", .glo "_law_moment", .glo "_law_deed", .glo "_law_can_do", .glo "_law_did", .glo "_law_stands_so", .glo "_law_turned_back", .glo "_law_led", .glo "_law_begun", .glo "_law_beats_right", .glo "_law_turns_right", .glo "_law_apart_right", .glo "law", .glo "WaveError", .glo "Wrong", .glo "NoSeats", .glo "NoDeed", .glo "Full", .glo "Refused", .glo "Nothing", .glo "NoEntry", .glo "Rule", .glo "Moment", .glo "Game", .free "isinstance", .free "int", .free "bool", .free "str", .free "list", .free "tuple", .free "all", .free "len", .free "set", .free "enumerate", .free "range", .free "sorted", .free "abs", .free "min", .free "repr", .free "super", .str "SIGNS" (S [48, 49, 50, 51]), .int "MOST_RESTS" 2, .int "MOST" 200, .int "MOST_BEATS" 50, .glo "WORDS", .mkr "Rule", .mkr "Moment", .mkr "Game", .meth "Rule" "ring_after", .meth "Moment" "can_do", .meth "Moment" "do", .meth "Game" "held", .meth "Game" "is_seat", .meth "Game" "is_deed", .meth "Game" "do", .meth "Game" "log", .meth "Game" "moment_behind", .meth "Game" "undo", .meth "Game" "redo", .meth "Game" "past", .meth "Game" "copied"]
def exS : List (PySem.W.Frag → Bool) := [sclsB "Rule", slotB "Rule" "its_rests" 0, slotB "Rule" "its_table" 1, sclsB "Moment", slotB "Moment" "now_beats" 0, slotB "Moment" "now_held" 1, slotB "Moment" "now_rule" 2, slotB "Moment" "now_text" 3, sclsB "Game", slotB "Game" "first_rule" 0, slotB "Game" "first_text" 1, slotB "Game" "its_log" 2, slotB "Game" "its_moment" 3, slotB "Game" "its_undone" 4, propB "Game" "beats", propB "Game" "rule", propB "Game" "text", propB "Rule" "rests", propB "Rule" "signs", propB "Rule" "table", siB "Rule", kitB "Rule" "Rule" true, findB "Rule" "__eq__", isFnB "Rule" "__eq__", neB "Rule", obB "Rule", nfB "Rule", siB "Game", kitB "Game" "Game" true, findB "Game" "__eq__", isFnB "Game" "__eq__", neB "Game", obB "Game", nfB "Game", findB "Game" "__len__", isFnB "Game" "__len__", wvB, wxB "Refused" "Refused.__init__", ecB "Refused", exmB "Refused" "WaveError" true, wxB "Nothing" "Nothing.__init__", ecB "Nothing", exmB "Nothing" "WaveError" true, noB, fun K => L2.xfB K (He.ga K "Refused"), kitB "Refused" "NoDeed" false, kitB "Refused" "Refused" true, kitB "Refused" "Full" false, kitB "Nothing" "Nothing" true, kitB "Nothing" "NoEntry" false, distB "Rule" "Moment", distB "Rule" "Game", distB "Moment" "Game"]
/-! ## the Hook -/
abbrev AlS : Type := He.AlD × Bool × FnI × FnI × Option (List (Option (Str × Int)))
def obsS (K : PySem.W.Frag) : AlS := (He5.obsA faS fnS K, exS.all (fun e => e K), fnI K (He.ma K (He.ga K "Refused") "__init__"), fnI K (He.ma K (He.ga K "Nothing") "__init__"), He.dicW K (He.ga K "WORDS"))
def valS (w : World) : AlS := (He5.valA fnS, true, iVal "Refused.__init__" (defArgs sRefI) (defBody sRefI) (defScope sRefI), iVal "Nothing.__init__" (defArgs sNoI) (defBody sNoI) (defScope sNoI), some (He.keysIn w.params wordS))
def SaysS (w : World) (K : PySem.W.Frag) : Prop := obsS K = valS w
/-- what an object names; a code's own parts are not looked at -/
def refsK (o : Obj) : List Addr := match o.cls with
  | .type "code" => []
  | _ => He.refsD o
def lev (g : Addr → Option Obj) : Nat → List Addr
  | 0 => [mainGlobals]
  | n + 1 => (lev g n).flatMap fun a => match g a with
    | some o => refsK o
    | none => []
def levs (g : Addr → Option Obj) : Nat → List Addr
  | 0 => lev g 0
  | n + 1 => levs g n ++ lev g (n + 1)
def obsSG (n : Nat) (g : Addr → Option Obj) : AlS := obsS (He.frG g (cStatics :: levs g n))
def hookS (n : Nat) : PySem.W.Hook where
  α := AlS
  obs := fun s => obsSG n s.heap.get?
  val := fun w => valS w
  says := fun w h => ∃ K : PySem.W.Frag, K.In h ∧ SaysS w K
  of := fun _ _ e => ⟨_, He.frG_in, e⟩
  keeps := fun _ _ _ ⟨K, hK, c⟩ k => ⟨K, PySem.W.Frag.In.keeps hK k, c⟩
theorem obsSG_eq {n : Nat} {g : Addr → Option Obj} {s : Shared} (h : ∀ a, g a = s.heap.get? a) : obsSG n g = (hookS n).obs s := by
  have e : g = s.heap.get? := funext h
  rw [e] <;> rfl
theorem SaysS.a {w : World} {K : PySem.W.Frag} (c : SaysS w K) : He5.SaysA faS fnS K := congrArg (fun z : AlS => z.1) c
theorem SaysS.e {w : World} {K : PySem.W.Frag} (c : SaysS w K) (i : Nat) {f : PySem.W.Frag → Bool} (h : exS[i]? = some f) : f K = true :=
  List.all_eq_true.mp (congrArg (fun z : AlS => z.2.1) c) f (List.mem_of_getElem? h)
theorem SaysS.iRefused {w : World} {K : PySem.W.Frag} (c : SaysS w K) : fnI K (He.ma K (He.ga K "Refused") "__init__") = iVal "Refused.__init__" (defArgs sRefI) (defBody sRefI) (defScope sRefI) := congrArg (fun z : AlS => z.2.2.1) c
theorem SaysS.iNothing {w : World} {K : PySem.W.Frag} (c : SaysS w K) : fnI K (He.ma K (He.ga K "Nothing") "__init__") = iVal "Nothing.__init__" (defArgs sNoI) (defBody sNoI) (defScope sNoI) := congrArg (fun z : AlS => z.2.2.2.1) c
theorem SaysS.kd {w : World} {K : PySem.W.Frag} (c : SaysS w K) : ∃ es n, KDict K w (He.ga K "WORDS") es n := He.dicW_ok (congrArg (fun z : AlS => z.2.2.2.2) c)
theorem txt_of {K : PySem.W.Frag} {w : World} {h : Heap} {mg : Str → Option Value} (X : K.In h) (G : h.Ns mainGlobals mg) (c : SaysS w K) {we : Array DictEntry} {wn : Nat} (kd : KDict K w (He.ga K "WORDS") we wn) : Txt K w mg (mkN K we wn) where
  d_is_integer := by
    obtain ⟨fd, F⟩ := c.a.def_ 0 (d := dA_is_integer) rfl
    exact ⟨fd, F, F.bindsN fun _ _ _ _ _ _ us hl => match us, hl with | [_], _ => rfl⟩
  g_is_integer := He.glo_ok X G (c.a.fact 0 (f := .glo "is_integer") rfl)
  k_is_integer := by
    obtain ⟨fd, F⟩ := c.a.def_ 0 (d := dA_is_integer) rfl
    exact F.kp
  d_is_count := by
    obtain ⟨fd, F⟩ := c.a.def_ 1 (d := dA_is_count) rfl
    exact ⟨fd, F, F.bindsN fun _ _ _ _ _ _ us hl => match us, hl with | [_], _ => rfl⟩
  g_is_count := He.glo_ok X G (c.a.fact 1 (f := .glo "is_count") rfl)
  k_is_count := by
    obtain ⟨fd, F⟩ := c.a.def_ 1 (d := dA_is_count) rfl
    exact F.kp
  d_is_number := by
    obtain ⟨fd, F⟩ := c.a.def_ 2 (d := dA_is_number) rfl
    exact ⟨fd, F, F.bindsN fun _ _ _ _ _ _ us hl => match us, hl with | [_], _ => rfl⟩
  g_is_number := He.glo_ok X G (c.a.fact 2 (f := .glo "is_number") rfl)
  k_is_number := by
    obtain ⟨fd, F⟩ := c.a.def_ 2 (d := dA_is_number) rfl
    exact F.kp
  d_is_row := by
    obtain ⟨fd, F⟩ := c.a.def_ 3 (d := dA_is_row) rfl
    exact ⟨fd, F, F.bindsN fun _ _ _ _ _ _ us hl => match us, hl with | [_, _], _ => rfl⟩
  g_is_row := He.glo_ok X G (c.a.fact 3 (f := .glo "is_row") rfl)
  k_is_row := by
    obtain ⟨fd, F⟩ := c.a.def_ 3 (d := dA_is_row) rfl
    exact F.kp
  d_is_stand := by
    obtain ⟨fd, F⟩ := c.a.def_ 4 (d := dA_is_stand) rfl
    exact ⟨fd, F, F.bindsN fun _ _ _ _ _ _ us hl => match us, hl with | [_, _], _ => rfl⟩
  g_is_stand := He.glo_ok X G (c.a.fact 4 (f := .glo "is_stand") rfl)
  k_is_stand := by
    obtain ⟨fd, F⟩ := c.a.def_ 4 (d := dA_is_stand) rfl
    exact F.kp
  d_is_table := by
    obtain ⟨fd, F⟩ := c.a.def_ 5 (d := dA_is_table) rfl
    exact ⟨fd, F, F.bindsN fun _ _ _ _ _ _ us hl => match us, hl with | [_], _ => rfl⟩
  g_is_table := He.glo_ok X G (c.a.fact 5 (f := .glo "is_table") rfl)
  k_is_table := by
    obtain ⟨fd, F⟩ := c.a.def_ 5 (d := dA_is_table) rfl
    exact F.kp
  d_sign_after := by
    obtain ⟨fd, F⟩ := c.a.def_ 6 (d := dA_sign_after) rfl
    exact ⟨fd, F, F.bindsN fun _ _ _ _ _ _ us hl => match us, hl with | [_, _, _, _, _], _ => rfl⟩
  g_sign_after := He.glo_ok X G (c.a.fact 6 (f := .glo "sign_after") rfl)
  k_sign_after := by
    obtain ⟨fd, F⟩ := c.a.def_ 6 (d := dA_sign_after) rfl
    exact F.kp
  d_row_after_beat := by
    obtain ⟨fd, F⟩ := c.a.def_ 7 (d := dA_row_after_beat) rfl
    exact ⟨fd, F, F.bindsN fun _ _ _ _ _ _ us hl => match us, hl with | [_, _, _], _ => rfl⟩
  g_row_after_beat := He.glo_ok X G (c.a.fact 7 (f := .glo "row_after_beat") rfl)
  k_row_after_beat := by
    obtain ⟨fd, F⟩ := c.a.def_ 7 (d := dA_row_after_beat) rfl
    exact F.kp
  d_Rule_init := by
    obtain ⟨fd, F⟩ := c.a.def_ 8 (d := dA_Rule_init) rfl
    obtain ⟨ds, v, b⟩ := F.binds1 3 1 (ps := ["self", "table", "rests"]) (by show [V.int 1] ≠ []; simp) rfl fun T kV doc pm an cdv ct us its hl h2 => match us, its, hl, h2 with | [_, _, _], [_], _, _ => ⟨_, rfl, rfl⟩
    cases v
    exact ⟨fd, F, b⟩
  d_Rule_table := by
    obtain ⟨fd, F⟩ := c.a.def_ 9 (d := dA_Rule_table) rfl
    exact ⟨fd, F, F.bindsN fun _ _ _ _ _ _ us hl => match us, hl with | [_], _ => rfl⟩
  d_Rule_rests := by
    obtain ⟨fd, F⟩ := c.a.def_ 10 (d := dA_Rule_rests) rfl
    exact ⟨fd, F, F.bindsN fun _ _ _ _ _ _ us hl => match us, hl with | [_], _ => rfl⟩
  d_Rule_signs := by
    obtain ⟨fd, F⟩ := c.a.def_ 11 (d := dA_Rule_signs) rfl
    exact ⟨fd, F, F.bindsN fun _ _ _ _ _ _ us hl => match us, hl with | [_], _ => rfl⟩
  d_Rule_ring_after := by
    obtain ⟨fd, F⟩ := c.a.def_ 12 (d := dA_Rule_ring_after) rfl
    exact ⟨fd, F, F.bindsN fun _ _ _ _ _ _ us hl => match us, hl with | [_, _], _ => rfl⟩
  d_Rule_eq := by
    obtain ⟨fd, F⟩ := c.a.def_ 13 (d := dA_Rule_eq) rfl
    exact ⟨fd, F, F.bindsN fun _ _ _ _ _ _ us hl => match us, hl with | [_, _], _ => rfl⟩
  d_turned_by := by
    obtain ⟨fd, F⟩ := c.a.def_ 14 (d := dA_turned_by) rfl
    exact ⟨fd, F, F.bindsN fun _ _ _ _ _ _ us hl => match us, hl with | [_, _], _ => rfl⟩
  g_turned_by := He.glo_ok X G (c.a.fact 8 (f := .glo "turned_by") rfl)
  k_turned_by := by
    obtain ⟨fd, F⟩ := c.a.def_ 14 (d := dA_turned_by) rfl
    exact F.kp
  d_are_stubborn := by
    obtain ⟨fd, F⟩ := c.a.def_ 15 (d := dA_are_stubborn) rfl
    exact ⟨fd, F, F.bindsN fun _ _ _ _ _ _ us hl => match us, hl with | [_, _], _ => rfl⟩
  g_are_stubborn := He.glo_ok X G (c.a.fact 9 (f := .glo "are_stubborn") rfl)
  k_are_stubborn := by
    obtain ⟨fd, F⟩ := c.a.def_ 15 (d := dA_are_stubborn) rfl
    exact F.kp
  d_held_beat := by
    obtain ⟨fd, F⟩ := c.a.def_ 16 (d := dA_held_beat) rfl
    exact ⟨fd, F, F.bindsN fun _ _ _ _ _ _ us hl => match us, hl with | [_, _, _], _ => rfl⟩
  g_held_beat := He.glo_ok X G (c.a.fact 10 (f := .glo "held_beat") rfl)
  k_held_beat := by
    obtain ⟨fd, F⟩ := c.a.def_ 16 (d := dA_held_beat) rfl
    exact F.kp
  d_need_seats := by
    obtain ⟨fd, F⟩ := c.a.def_ 17 (d := dA_need_seats) rfl
    exact ⟨fd, F, F.bindsN fun _ _ _ _ _ _ us hl => match us, hl with | [_, _], _ => rfl⟩
  g_need_seats := He.glo_ok X G (c.a.fact 11 (f := .glo "need_seats") rfl)
  k_need_seats := by
    obtain ⟨fd, F⟩ := c.a.def_ 17 (d := dA_need_seats) rfl
    exact F.kp
  d_held_after := by
    obtain ⟨fd, F⟩ := c.a.def_ 18 (d := dA_held_after) rfl
    exact ⟨fd, F, F.bindsN fun _ _ _ _ _ _ us hl => match us, hl with | [_, _, _, _], _ => rfl⟩
  g_held_after := He.glo_ok X G (c.a.fact 12 (f := .glo "held_after") rfl)
  k_held_after := by
    obtain ⟨fd, F⟩ := c.a.def_ 18 (d := dA_held_after) rfl
    exact F.kp
  d_Moment_init := by
    obtain ⟨fd, F⟩ := c.a.def_ 19 (d := dA_Moment_init) rfl
    exact ⟨fd, F, F.bindsN fun _ _ _ _ _ _ us hl => match us, hl with | [_, _, _], _ => rfl⟩
  d_Moment_can_do := by
    obtain ⟨fd, F⟩ := c.a.def_ 20 (d := dA_Moment_can_do) rfl
    exact ⟨fd, F, F.bindsN fun _ _ _ _ _ _ us hl => match us, hl with | [_, _], _ => rfl⟩
  d_Moment_do := by
    obtain ⟨fd, F⟩ := c.a.def_ 21 (d := dA_Moment_do) rfl
    exact ⟨fd, F, F.bindsN fun _ _ _ _ _ _ us hl => match us, hl with | [_, _], _ => rfl⟩
  d_Game_init := by
    obtain ⟨fd, F⟩ := c.a.def_ 22 (d := dA_Game_init) rfl
    exact ⟨fd, F, F.bindsN fun _ _ _ _ _ _ us hl => match us, hl with | [_, _, _], _ => rfl⟩
  d_Game_text := by
    obtain ⟨fd, F⟩ := c.a.def_ 23 (d := dA_Game_text) rfl
    exact ⟨fd, F, F.bindsN fun _ _ _ _ _ _ us hl => match us, hl with | [_], _ => rfl⟩
  d_Game_rule := by
    obtain ⟨fd, F⟩ := c.a.def_ 24 (d := dA_Game_rule) rfl
    exact ⟨fd, F, F.bindsN fun _ _ _ _ _ _ us hl => match us, hl with | [_], _ => rfl⟩
  d_Game_beats := by
    obtain ⟨fd, F⟩ := c.a.def_ 25 (d := dA_Game_beats) rfl
    exact ⟨fd, F, F.bindsN fun _ _ _ _ _ _ us hl => match us, hl with | [_], _ => rfl⟩
  d_Game_len := by
    obtain ⟨fd, F⟩ := c.a.def_ 26 (d := dA_Game_len) rfl
    exact ⟨fd, F, F.bindsN fun _ _ _ _ _ _ us hl => match us, hl with | [_], _ => rfl⟩
  d_Game_held := by
    obtain ⟨fd, F⟩ := c.a.def_ 27 (d := dA_Game_held) rfl
    exact ⟨fd, F, F.bindsN fun _ _ _ _ _ _ us hl => match us, hl with | [_], _ => rfl⟩
  d_Game_is_seat := by
    obtain ⟨fd, F⟩ := c.a.def_ 28 (d := dA_Game_is_seat) rfl
    exact ⟨fd, F, F.bindsN fun _ _ _ _ _ _ us hl => match us, hl with | [_, _], _ => rfl⟩
  d_Game_is_deed := by
    obtain ⟨fd, F⟩ := c.a.def_ 29 (d := dA_Game_is_deed) rfl
    exact ⟨fd, F, F.bindsN fun _ _ _ _ _ _ us hl => match us, hl with | [_, _], _ => rfl⟩
  d_Game_do := by
    obtain ⟨fd, F⟩ := c.a.def_ 30 (d := dA_Game_do) rfl
    exact ⟨fd, F, F.bindsN fun _ _ _ _ _ _ us hl => match us, hl with | [_, _], _ => rfl⟩
  d_Game_log := by
    obtain ⟨fd, F⟩ := c.a.def_ 31 (d := dA_Game_log) rfl
    exact ⟨fd, F, F.bindsN fun _ _ _ _ _ _ us hl => match us, hl with | [_], _ => rfl⟩
  d_Game_moment_behind := by
    obtain ⟨fd, F⟩ := c.a.def_ 32 (d := dA_Game_moment_behind) rfl
    exact ⟨fd, F, F.bindsN fun _ _ _ _ _ _ us hl => match us, hl with | [_, _], _ => rfl⟩
  d_Game_undo := by
    obtain ⟨fd, F⟩ := c.a.def_ 33 (d := dA_Game_undo) rfl
    exact ⟨fd, F, F.bindsN fun _ _ _ _ _ _ us hl => match us, hl with | [_], _ => rfl⟩
  d_Game_redo := by
    obtain ⟨fd, F⟩ := c.a.def_ 34 (d := dA_Game_redo) rfl
    exact ⟨fd, F, F.bindsN fun _ _ _ _ _ _ us hl => match us, hl with | [_], _ => rfl⟩
  d_Game_past := by
    obtain ⟨fd, F⟩ := c.a.def_ 35 (d := dA_Game_past) rfl
    exact ⟨fd, F, F.bindsN fun _ _ _ _ _ _ us hl => match us, hl with | [_, _], _ => rfl⟩
  d_Game_copied := by
    obtain ⟨fd, F⟩ := c.a.def_ 36 (d := dA_Game_copied) rfl
    exact ⟨fd, F, F.bindsN fun _ _ _ _ _ _ us hl => match us, hl with | [_], _ => rfl⟩
  d_Game_eq := by
    obtain ⟨fd, F⟩ := c.a.def_ 37 (d := dA_Game_eq) rfl
    exact ⟨fd, F, F.bindsN fun _ _ _ _ _ _ us hl => match us, hl with | [_, _], _ => rfl⟩
  d_after := by
    obtain ⟨fd, F⟩ := c.a.def_ 38 (d := dA_after) rfl
    exact ⟨fd, F, F.bindsN fun _ _ _ _ _ _ us hl => match us, hl with | [_, _, _], _ => rfl⟩
  g_after := He.glo_ok X G (c.a.fact 13 (f := .glo "after") rfl)
  k_after := by
    obtain ⟨fd, F⟩ := c.a.def_ 38 (d := dA_after) rfl
    exact F.kp
  d_l_bag := by
    obtain ⟨fd, F⟩ := c.a.def_ 39 (d := dA_l_bag) rfl
    exact ⟨fd, F, F.bindsN fun _ _ _ _ _ _ us hl => match us, hl with | [_], _ => rfl⟩
  g_l_bag := He.glo_ok X G (c.a.fact 14 (f := .glo "_law_bag") rfl)
  k_l_bag := by
    obtain ⟨fd, F⟩ := c.a.def_ 39 (d := dA_l_bag) rfl
    exact F.kp
  d_l_take := by
    obtain ⟨fd, F⟩ := c.a.def_ 40 (d := dA_l_take) rfl
    exact ⟨fd, F, F.bindsN fun _ _ _ _ _ _ us hl => match us, hl with | [_, _], _ => rfl⟩
  g_l_take := He.glo_ok X G (c.a.fact 15 (f := .glo "_law_take") rfl)
  k_l_take := by
    obtain ⟨fd, F⟩ := c.a.def_ 40 (d := dA_l_take) rfl
    exact F.kp
  d_l_alike := by
    obtain ⟨fd, F⟩ := c.a.def_ 41 (d := dA_l_alike) rfl
    exact ⟨fd, F, F.bindsN fun _ _ _ _ _ _ us hl => match us, hl with | [_, _], _ => rfl⟩
  g_l_alike := He.glo_ok X G (c.a.fact 16 (f := .glo "_law_alike") rfl)
  k_l_alike := by
    obtain ⟨fd, F⟩ := c.a.def_ 41 (d := dA_l_alike) rfl
    exact F.kp
  d_l_mixed := by
    obtain ⟨fd, F⟩ := c.a.def_ 42 (d := dA_l_mixed) rfl
    exact ⟨fd, F, F.bindsN fun _ _ _ _ _ _ us hl => match us, hl with | [_, _], _ => rfl⟩
  g_l_mixed := He.glo_ok X G (c.a.fact 17 (f := .glo "_law_mixed") rfl)
  k_l_mixed := by
    obtain ⟨fd, F⟩ := c.a.def_ 42 (d := dA_l_mixed) rfl
    exact F.kp
  d_l_pick := by
    obtain ⟨fd, F⟩ := c.a.def_ 43 (d := dA_l_pick) rfl
    exact ⟨fd, F, F.bindsN fun _ _ _ _ _ _ us hl => match us, hl with | [_, _], _ => rfl⟩
  g_l_pick := He.glo_ok X G (c.a.fact 18 (f := .glo "_law_pick") rfl)
  k_l_pick := by
    obtain ⟨fd, F⟩ := c.a.def_ 43 (d := dA_l_pick) rfl
    exact F.kp
  d_l_table := by
    obtain ⟨fd, F⟩ := c.a.def_ 44 (d := dA_l_table) rfl
    exact ⟨fd, F, F.bindsN fun _ _ _ _ _ _ us hl => match us, hl with | [_], _ => rfl⟩
  g_l_table := He.glo_ok X G (c.a.fact 19 (f := .glo "_law_table") rfl)
  k_l_table := by
    obtain ⟨fd, F⟩ := c.a.def_ 44 (d := dA_l_table) rfl
    exact F.kp
  d_l_rule := by
    obtain ⟨fd, F⟩ := c.a.def_ 45 (d := dA_l_rule) rfl
    exact ⟨fd, F, F.bindsN fun _ _ _ _ _ _ us hl => match us, hl with | [_], _ => rfl⟩
  g_l_rule := He.glo_ok X G (c.a.fact 20 (f := .glo "_law_rule") rfl)
  k_l_rule := by
    obtain ⟨fd, F⟩ := c.a.def_ 45 (d := dA_l_rule) rfl
    exact F.kp
  d_l_text := by
    obtain ⟨fd, F⟩ := c.a.def_ 46 (d := dA_l_text) rfl
    exact ⟨fd, F, F.bindsN fun _ _ _ _ _ _ us hl => match us, hl with | [_, _, _], _ => rfl⟩
  g_l_text := He.glo_ok X G (c.a.fact 21 (f := .glo "_law_text") rfl)
  k_l_text := by
    obtain ⟨fd, F⟩ := c.a.def_ 46 (d := dA_l_text) rfl
    exact F.kp
  d_l_beat := by
    obtain ⟨fd, F⟩ := c.a.def_ 47 (d := dA_l_beat) rfl
    exact ⟨fd, F, F.bindsN fun _ _ _ _ _ _ us hl => match us, hl with | [_, _], _ => rfl⟩
  g_l_beat := He.glo_ok X G (c.a.fact 22 (f := .glo "_law_beat") rfl)
  k_l_beat := by
    obtain ⟨fd, F⟩ := c.a.def_ 47 (d := dA_l_beat) rfl
    exact F.kp
  d_l_turned := by
    obtain ⟨fd, F⟩ := c.a.def_ 48 (d := dA_l_turned) rfl
    exact ⟨fd, F, F.bindsN fun _ _ _ _ _ _ us hl => match us, hl with | [_, _], _ => rfl⟩
  g_l_turned := He.glo_ok X G (c.a.fact 23 (f := .glo "_law_turned") rfl)
  k_l_turned := by
    obtain ⟨fd, F⟩ := c.a.def_ 48 (d := dA_l_turned) rfl
    exact F.kp
  d_l_signs := by
    obtain ⟨fd, F⟩ := c.a.def_ 49 (d := dA_l_signs) rfl
    exact ⟨fd, F, F.bindsN fun _ _ _ _ _ _ us hl => match us, hl with | [_], _ => rfl⟩
  g_l_signs := He.glo_ok X G (c.a.fact 24 (f := .glo "_law_signs") rfl)
  k_l_signs := by
    obtain ⟨fd, F⟩ := c.a.def_ 49 (d := dA_l_signs) rfl
    exact F.kp
  d_l_made_rule := by
    obtain ⟨fd, F⟩ := c.a.def_ 50 (d := dA_l_made_rule) rfl
    exact ⟨fd, F, F.bindsN fun _ _ _ _ _ _ us hl => match us, hl with | [_], _ => rfl⟩
  g_l_made_rule := He.glo_ok X G (c.a.fact 25 (f := .glo "_law_made_rule") rfl)
  k_l_made_rule := by
    obtain ⟨fd, F⟩ := c.a.def_ 50 (d := dA_l_made_rule) rfl
    exact F.kp
  d_l_seats := by
    obtain ⟨fd, F⟩ := c.a.def_ 51 (d := dA_l_seats) rfl
    exact ⟨fd, F, F.bindsN fun _ _ _ _ _ _ us hl => match us, hl with | [_, _], _ => rfl⟩
  g_l_seats := He.glo_ok X G (c.a.fact 26 (f := .glo "_law_seats") rfl)
  k_l_seats := by
    obtain ⟨fd, F⟩ := c.a.def_ 51 (d := dA_l_seats) rfl
    exact F.kp
  d_l_held_beat := by
    obtain ⟨fd, F⟩ := c.a.def_ 52 (d := dA_l_held_beat) rfl
    exact ⟨fd, F, F.bindsN fun _ _ _ _ _ _ us hl => match us, hl with | [_, _, _], _ => rfl⟩
  g_l_held_beat := He.glo_ok X G (c.a.fact 27 (f := .glo "_law_held_beat") rfl)
  k_l_held_beat := by
    obtain ⟨fd, F⟩ := c.a.def_ 52 (d := dA_l_held_beat) rfl
    exact F.kp
  d_l_moment := by
    obtain ⟨fd, F⟩ := c.a.def_ 53 (d := dA_l_moment) rfl
    exact ⟨fd, F, F.bindsN fun _ _ _ _ _ _ us hl => match us, hl with | [_, _, _], _ => rfl⟩
  g_l_moment := He.glo_ok X G (c.a.fact 28 (f := .glo "_law_moment") rfl)
  k_l_moment := by
    obtain ⟨fd, F⟩ := c.a.def_ 53 (d := dA_l_moment) rfl
    exact F.kp
  d_l_deed := by
    obtain ⟨fd, F⟩ := c.a.def_ 54 (d := dA_l_deed) rfl
    exact ⟨fd, F, F.bindsN fun _ _ _ _ _ _ us hl => match us, hl with | [_, _], _ => rfl⟩
  g_l_deed := He.glo_ok X G (c.a.fact 29 (f := .glo "_law_deed") rfl)
  k_l_deed := by
    obtain ⟨fd, F⟩ := c.a.def_ 54 (d := dA_l_deed) rfl
    exact F.kp
  d_l_can_do := by
    obtain ⟨fd, F⟩ := c.a.def_ 55 (d := dA_l_can_do) rfl
    exact ⟨fd, F, F.bindsN fun _ _ _ _ _ _ us hl => match us, hl with | [_, _], _ => rfl⟩
  g_l_can_do := He.glo_ok X G (c.a.fact 30 (f := .glo "_law_can_do") rfl)
  k_l_can_do := by
    obtain ⟨fd, F⟩ := c.a.def_ 55 (d := dA_l_can_do) rfl
    exact F.kp
  d_l_did := by
    obtain ⟨fd, F⟩ := c.a.def_ 56 (d := dA_l_did) rfl
    exact ⟨fd, F, F.bindsN fun _ _ _ _ _ _ us hl => match us, hl with | [_, _], _ => rfl⟩
  g_l_did := He.glo_ok X G (c.a.fact 31 (f := .glo "_law_did") rfl)
  k_l_did := by
    obtain ⟨fd, F⟩ := c.a.def_ 56 (d := dA_l_did) rfl
    exact F.kp
  d_l_stands_so := by
    obtain ⟨fd, F⟩ := c.a.def_ 57 (d := dA_l_stands_so) rfl
    exact ⟨fd, F, F.bindsN fun _ _ _ _ _ _ us hl => match us, hl with | [_, _, _, _], _ => rfl⟩
  g_l_stands_so := He.glo_ok X G (c.a.fact 32 (f := .glo "_law_stands_so") rfl)
  k_l_stands_so := by
    obtain ⟨fd, F⟩ := c.a.def_ 57 (d := dA_l_stands_so) rfl
    exact F.kp
  d_l_turned_back := by
    obtain ⟨fd, F⟩ := c.a.def_ 58 (d := dA_l_turned_back) rfl
    exact ⟨fd, F, F.bindsN fun _ _ _ _ _ _ us hl => match us, hl with | [_, _, _], _ => rfl⟩
  g_l_turned_back := He.glo_ok X G (c.a.fact 33 (f := .glo "_law_turned_back") rfl)
  k_l_turned_back := by
    obtain ⟨fd, F⟩ := c.a.def_ 58 (d := dA_l_turned_back) rfl
    exact F.kp
  d_l_led := by
    obtain ⟨fd, F⟩ := c.a.def_ 59 (d := dA_l_led) rfl
    exact ⟨fd, F, F.bindsN fun _ _ _ _ _ _ us hl => match us, hl with | [_, _, _, _, _, _, _], _ => rfl⟩
  g_l_led := He.glo_ok X G (c.a.fact 34 (f := .glo "_law_led") rfl)
  k_l_led := by
    obtain ⟨fd, F⟩ := c.a.def_ 59 (d := dA_l_led) rfl
    exact F.kp
  d_l_begun := by
    obtain ⟨fd, F⟩ := c.a.def_ 60 (d := dA_l_begun) rfl
    exact ⟨fd, F, F.bindsN fun _ _ _ _ _ _ us hl => match us, hl with | [_], _ => rfl⟩
  g_l_begun := He.glo_ok X G (c.a.fact 35 (f := .glo "_law_begun") rfl)
  k_l_begun := by
    obtain ⟨fd, F⟩ := c.a.def_ 60 (d := dA_l_begun) rfl
    exact F.kp
  d_l_beats_right := by
    obtain ⟨fd, F⟩ := c.a.def_ 61 (d := dA_l_beats_right) rfl
    exact ⟨fd, F, F.bindsN fun _ _ _ _ _ _ us hl => match us, hl with | [_, _, _, _], _ => rfl⟩
  g_l_beats_right := He.glo_ok X G (c.a.fact 36 (f := .glo "_law_beats_right") rfl)
  k_l_beats_right := by
    obtain ⟨fd, F⟩ := c.a.def_ 61 (d := dA_l_beats_right) rfl
    exact F.kp
  d_l_turns_right := by
    obtain ⟨fd, F⟩ := c.a.def_ 62 (d := dA_l_turns_right) rfl
    exact ⟨fd, F, F.bindsN fun _ _ _ _ _ _ us hl => match us, hl with | [_, _, _, _], _ => rfl⟩
  g_l_turns_right := He.glo_ok X G (c.a.fact 37 (f := .glo "_law_turns_right") rfl)
  k_l_turns_right := by
    obtain ⟨fd, F⟩ := c.a.def_ 62 (d := dA_l_turns_right) rfl
    exact F.kp
  d_l_apart_right := by
    obtain ⟨fd, F⟩ := c.a.def_ 63 (d := dA_l_apart_right) rfl
    exact ⟨fd, F, F.bindsN fun _ _ _ _ _ _ us hl => match us, hl with | [_, _, _], _ => rfl⟩
  g_l_apart_right := He.glo_ok X G (c.a.fact 38 (f := .glo "_law_apart_right") rfl)
  k_l_apart_right := by
    obtain ⟨fd, F⟩ := c.a.def_ 63 (d := dA_l_apart_right) rfl
    exact F.kp
  d_law := by
    obtain ⟨fd, F⟩ := c.a.def_ 64 (d := dA_law) rfl
    exact ⟨fd, F, F.bindsN fun _ _ _ _ _ _ us hl => match us, hl with | [_], _ => rfl⟩
  g_law := He.glo_ok X G (c.a.fact 39 (f := .glo "law") rfl)
  k_law := by
    obtain ⟨fd, F⟩ := c.a.def_ 64 (d := dA_law) rfl
    exact F.kp
  g_WaveError := He.glo_ok X G (c.a.fact 40 (f := .glo "WaveError") rfl)
  g_Wrong := He.glo_ok X G (c.a.fact 41 (f := .glo "Wrong") rfl)
  g_NoSeats := He.glo_ok X G (c.a.fact 42 (f := .glo "NoSeats") rfl)
  g_NoDeed := He.glo_ok X G (c.a.fact 43 (f := .glo "NoDeed") rfl)
  g_Full := He.glo_ok X G (c.a.fact 44 (f := .glo "Full") rfl)
  g_Refused := He.glo_ok X G (c.a.fact 45 (f := .glo "Refused") rfl)
  g_Nothing := He.glo_ok X G (c.a.fact 46 (f := .glo "Nothing") rfl)
  g_NoEntry := He.glo_ok X G (c.a.fact 47 (f := .glo "NoEntry") rfl)
  g_Rule := He.glo_ok X G (c.a.fact 48 (f := .glo "Rule") rfl)
  g_Moment := He.glo_ok X G (c.a.fact 49 (f := .glo "Moment") rfl)
  g_Game := He.glo_ok X G (c.a.fact 50 (f := .glo "Game") rfl)
  n_isinstance := He.free_ok X G (c.a.fact 51 (f := .free "isinstance") rfl)
  n_int := He.free_ok X G (c.a.fact 52 (f := .free "int") rfl)
  n_bool := He.free_ok X G (c.a.fact 53 (f := .free "bool") rfl)
  n_str := He.free_ok X G (c.a.fact 54 (f := .free "str") rfl)
  n_list := He.free_ok X G (c.a.fact 55 (f := .free "list") rfl)
  n_tuple := He.free_ok X G (c.a.fact 56 (f := .free "tuple") rfl)
  n_all := He.free_ok X G (c.a.fact 57 (f := .free "all") rfl)
  n_len := He.free_ok X G (c.a.fact 58 (f := .free "len") rfl)
  n_set := He.free_ok X G (c.a.fact 59 (f := .free "set") rfl)
  n_enumerate := He.free_ok X G (c.a.fact 60 (f := .free "enumerate") rfl)
  n_range := He.free_ok X G (c.a.fact 61 (f := .free "range") rfl)
  n_sorted := He.free_ok X G (c.a.fact 62 (f := .free "sorted") rfl)
  n_abs := He.free_ok X G (c.a.fact 63 (f := .free "abs") rfl)
  n_min := He.free_ok X G (c.a.fact 64 (f := .free "min") rfl)
  n_repr := He.free_ok X G (c.a.fact 65 (f := .free "repr") rfl)
  n_super := He.free_ok X G (c.a.fact 66 (f := .free "super") rfl)
  g_SIGNS := by
    obtain ⟨u, e⟩ := He.str_ok X G (c.a.fact 67 (f := .str "SIGNS" (S [48, 49, 50, 51])) rfl)
    exact ⟨_, e, u, rfl⟩
  g_MOST_RESTS := by
    obtain ⟨u, e⟩ := He.int_ok X G (c.a.fact 68 (f := .int "MOST_RESTS" 2) rfl)
    exact ⟨_, e, u, rfl⟩
  g_MOST := by
    obtain ⟨u, e⟩ := He.int_ok X G (c.a.fact 69 (f := .int "MOST" 200) rfl)
    exact ⟨_, e, u, rfl⟩
  g_MOST_BEATS := by
    obtain ⟨u, e⟩ := He.int_ok X G (c.a.fact 70 (f := .int "MOST_BEATS" 50) rfl)
    exact ⟨_, e, u, rfl⟩
  g_WORDS := ⟨_, He.glo_ok X G (c.a.fact 71 (f := .glo "WORDS") rfl), rfl⟩
  mk_Rule := He.mkr_ok (c.a.fact 72 (f := .mkr "Rule") rfl)
  c_Rule := sclsB_ok (c.e 0 rfl)
  s_Rule_its_rests := ⟨_, slotB_ok (c.e 1 rfl)⟩
  s_Rule_its_table := ⟨_, slotB_ok (c.e 2 rfl)⟩
  mk_Moment := He.mkr_ok (c.a.fact 73 (f := .mkr "Moment") rfl)
  c_Moment := sclsB_ok (c.e 3 rfl)
  s_Moment_now_beats := ⟨_, slotB_ok (c.e 4 rfl)⟩
  s_Moment_now_held := ⟨_, slotB_ok (c.e 5 rfl)⟩
  s_Moment_now_rule := ⟨_, slotB_ok (c.e 6 rfl)⟩
  s_Moment_now_text := ⟨_, slotB_ok (c.e 7 rfl)⟩
  mk_Game := He.mkr_ok (c.a.fact 74 (f := .mkr "Game") rfl)
  c_Game := sclsB_ok (c.e 8 rfl)
  s_Game_first_rule := ⟨_, slotB_ok (c.e 9 rfl)⟩
  s_Game_first_text := ⟨_, slotB_ok (c.e 10 rfl)⟩
  s_Game_its_log := ⟨_, slotB_ok (c.e 11 rfl)⟩
  s_Game_its_moment := ⟨_, slotB_ok (c.e 12 rfl)⟩
  s_Game_its_undone := ⟨_, slotB_ok (c.e 13 rfl)⟩
  p_Game_beats := propB_ok (c.e 14 rfl)
  p_Game_rule := propB_ok (c.e 15 rfl)
  p_Game_text := propB_ok (c.e 16 rfl)
  p_Rule_rests := propB_ok (c.e 17 rfl)
  p_Rule_signs := propB_ok (c.e 18 rfl)
  p_Rule_table := propB_ok (c.e 19 rfl)
  m_Rule_ring_after := He.meth_ok (c.a.fact 75 (f := .meth "Rule" "ring_after") rfl)
  m_Moment_can_do := He.meth_ok (c.a.fact 76 (f := .meth "Moment" "can_do") rfl)
  m_Moment_do := He.meth_ok (c.a.fact 77 (f := .meth "Moment" "do") rfl)
  m_Game_held := He.meth_ok (c.a.fact 78 (f := .meth "Game" "held") rfl)
  m_Game_is_seat := He.meth_ok (c.a.fact 79 (f := .meth "Game" "is_seat") rfl)
  m_Game_is_deed := He.meth_ok (c.a.fact 80 (f := .meth "Game" "is_deed") rfl)
  m_Game_do := He.meth_ok (c.a.fact 81 (f := .meth "Game" "do") rfl)
  m_Game_log := He.meth_ok (c.a.fact 82 (f := .meth "Game" "log") rfl)
  m_Game_moment_behind := He.meth_ok (c.a.fact 83 (f := .meth "Game" "moment_behind") rfl)
  m_Game_undo := He.meth_ok (c.a.fact 84 (f := .meth "Game" "undo") rfl)
  m_Game_redo := He.meth_ok (c.a.fact 85 (f := .meth "Game" "redo") rfl)
  m_Game_past := He.meth_ok (c.a.fact 86 (f := .meth "Game" "past") rfl)
  m_Game_copied := He.meth_ok (c.a.fact 87 (f := .meth "Game" "copied") rfl)
  si_Rule := siB_ok (c.e 20 rfl)
  kit_Rule := of_decide_eq_true (c.e 21 rfl)
  eq_Rule := He.eqO_ok (c.e 22 rfl)
  fn_Rule_eq := c.e 23 rfl
  ne_Rule := He.eqO_ok (c.e 24 rfl)
  ob_Rule := of_decide_eq_true (c.e 25 rfl)
  nf_Rule := c.e 26 rfl
  si_Game := siB_ok (c.e 27 rfl)
  kit_Game := of_decide_eq_true (c.e 28 rfl)
  eq_Game := He.eqO_ok (c.e 29 rfl)
  fn_Game_eq := c.e 30 rfl
  ne_Game := He.eqO_ok (c.e 31 rfl)
  ob_Game := of_decide_eq_true (c.e 32 rfl)
  nf_Game := c.e 33 rfl
  len_Game := He.eqO_ok (c.e 34 rfl)
  fn_Game_len := c.e 35 rfl
  kd := kd
  wv := wv_ok (c.e 36 rfl)
  wx_Refused := wxB_ok (c.e 37 rfl) c.iRefused
  ec_Refused := ecB_ok (c.e 38 rfl)
  exm_Refused := of_decide_eq_true (c.e 39 rfl)
  wx_Nothing := wxB_ok (c.e 40 rfl) c.iNothing
  ec_Nothing := ecB_ok (c.e 41 rfl)
  exm_Nothing := of_decide_eq_true (c.e 42 rfl)
  no_deed := He.eqO_ok (c.e 43 rfl)
  xf_Refused := L2.xfB_ok (c.e 44 rfl)
  kit_Refused_NoDeed := of_decide_eq_true (c.e 45 rfl)
  kit_Refused_Refused := of_decide_eq_true (c.e 46 rfl)
  kit_Refused_Full := of_decide_eq_true (c.e 47 rfl)
  kit_Nothing_Nothing := of_decide_eq_true (c.e 48 rfl)
  kit_Nothing_NoEntry := of_decide_eq_true (c.e 49 rfl)
  neRM := of_decide_eq_true (c.e 50 rfl)
  neRG := of_decide_eq_true (c.e 51 rfl)
  neMG := of_decide_eq_true (c.e 52 rfl)
end Sw
set_option maxHeartbeats 0
namespace Sw
open PySem PySem.W PySem.Calls PyProof.Rows
abbrev Rw : OpenRow := OpenLaw.row PySem.Challenge.rw_standwaves_k89_whole_games_runs_and_logs
abbrev qv : Program := view Rw.prog [64]
def namesA : List PySem.Str := ["_wall", "WaveError", "Wrong", "NoSeats", "NoDeed", "Full", "Refused", "Nothing", "NoEntry", "is_integer", "is_count", "is_number", "is_row", "is_stand", "is_table", "SIGNS", "MOST_RESTS", "sign_after", "row_after_beat", "Rule", "turned_by", "are_stubborn", "held_beat", "need_seats", "held_after", "MOST", "MOST_BEATS", "WORDS", "Moment", "Game", "after"]
def namesB : List PySem.Str := ["_law_bag", "_law_take", "_law_alike", "_law_mixed", "_law_pick", "_law_table", "_law_rule", "_law_text", "_law_beat", "_law_turned", "_law_signs", "_law_made_rule", "_law_seats", "_law_held_beat", "_law_moment", "_law_deed", "_law_can_do", "_law_did", "_law_stands_so", "_law_turned_back", "_law_led", "_law_begun", "_law_beats_right", "_law_turns_right", "_law_apart_right"]
def names : List PySem.Str := namesA ++ namesB
abbrev hk : Hook := hookS 5
def ob (s : SharedT) : AlS := obsSG 5 (HandSHeadRun.getT s)
theorem ob_eq (s : SharedT) : ob s = hk.obs s.abs := obsSG_eq (HandSHeadRun.getT_eq s)
theorem runF (w : World) : HandSHeadRun.RunEq Rw qv hk ob 9000 names (w.withFollow "special-get-raises" false) := by
  intro os
  kernel_rfl
end Sw
namespace Sw
open PySem PySem.W PySem.Calls PyProof.Rows
theorem runT (w : World) : HandSHeadRun.RunEq Rw qv hk ob 9000 names (w.withFollow "special-get-raises" true) := by
  intro os
  kernel_rfl
end Sw
namespace Sw
open PySem PySem.W PySem.Calls PyProof.Rows
theorem runW (w : World) : HandSHeadRun.RunEq Rw qv hk ob 9000 names w := byRow2 "special-get-raises" runF runT w
theorem law_at {w : World} {h : Heap} {mg : PySem.Str → Option Value} {fa : Addr} (Y : hk.says w h) (G : h.Ns mainGlobals mg) (e : mg ("law" : PySem.Str) = some (.ref fa)) :
    ∃ (K : PySem.W.Frag) (sp : L2.Sp), K.In h ∧ (∀ (H : L2.Hp) (a : Addr) (ns : List Int), ns.length ≤ 63 → L2.Only H → L2.SqL K H a (ns.map L2.V.int) → sp [.ref a] H (fun v _ => v = .bl true) fun _ _ _ => False) ∧
      ∀ base : Heap, K.In base → base.Ns mainGlobals mg → FnG Pw w K mg base L2.CX0 20 fa sp := by
  obtain ⟨K, KX, c⟩ := Y
  obtain ⟨es, n, kd⟩ := c.kd
  have T : Txt K w mg (mkN K es n) := txt_of KX G c kd
  have ef := e.symm.trans T.g_law
  cases ef
  exact ⟨K, sp_law K (mkN K es n), KX, fun H a ns hl _ hS => ⟨a, ns, rfl, hS, hl, fun _ => rfl⟩, fun base hb hn => ok_law T⟩
end Sw
open PySem PySem.W PySem.Calls PyProof.Rows
theorem PySem.Challenge.cw_standwaves_k89_whole_games_runs_and_logs_holds : PySem.Challenge.rw_standwaves_k89_whole_games_runs_and_logs.Holds := by
  w_on; o_law
  refine HandSHeadRun.head_any (r := OpenLaw.row PySem.Challenge.rw_standwaves_k89_whole_games_runs_and_logs) (q := Sw.qv) (H := Sw.hk) (ob := Sw.ob) (M := 9000) (loose := Sw.names) (d := HandSHeadRun.topDef (OpenLaw.row PySem.Challenge.rw_standwaves_k89_whole_games_runs_and_logs).prog 64) (kwd := []) Sw.ob_eq
    (by kernel_rfl) (fun s => by kernel_rfl) Sw.runW (by kernel_rfl) (by kernel_rfl) (by kernel_rfl) (by rfl) (by first | assumption | decide +kernel) (by decide +kernel) ⟨rfl, rfl, rfl, rfl, rfl, by decide +kernel⟩ ?hw ?hc
  case hw => w_witness2
  case hc =>
    refine Sw.walk_ofG (l := PySem.Challenge.rw_standwaves_k89_whole_games_runs_and_logs) (n := 63) (k := 20) (CX := fun _ => L2.CX0) rfl (by decide) (by kernel_rfl) ⟨rfl, by decide, by decide⟩ ?F (fun _ _ _ _ _ z => z)
    intro w mg fa h Y G hmg0
    have hmg : mg ("law" : PySem.Str) = some (.ref fa) := by
      have e : (HandSHeadRun.topDef (OpenLaw.row PySem.Challenge.rw_standwaves_k89_whole_games_runs_and_logs).prog 64).name = ("law" : PySem.Str) := by kernel_rfl
      rw [← e]
      exact hmg0
    exact Sw.law_at Y G hmg
