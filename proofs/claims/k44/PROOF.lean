import PyProof.Rows.All
import Wide.All
import OpenK.AllK
import Wide.FinOn
import HandS.ForMost
import HandS.HeadEnd
import HandS.HeadHook1
import HandS.Head2
import HandS.Walk
import KE.GoesNew
import KE.GoesNewDict
import HandS.DictComp
import KE.KeyNested
import KE.KTab
import KE.KDictKeyed
import KE.KDictDisplayH
import PyProof.Rows.TupDisplay
import HandS.Deep
import HandS.TupAny
import HandS.IsInst
import HandS.Wide
import HandS.WideMore
import HandS.Evl
import KE.KTupSum
import PyProof.FitsReplace
import PySem.Challenge.RW_heldwater_k44_months_add_up
set_option Elab.async false
set_option linter.all false
set_option maxRecDepth 100000
set_option maxHeartbeats 4000000
section
/-! HWTop: the text by its places; the facts that the top leaves, by names; the top's run. -/
namespace HW
open PySem PySem.Spec PyProof.Rows L2
def tp (i : Nat) : Stmt := PySem.Challenge.pw_heldwater_k44_months_add_up.main.body.getD i (.Pass ⟨0, 0, 0, 0⟩)
def dG (x : Str) (st : Stmt) : He.FnD := ⟨(x, none), x, x, defArgs st, defBody st, defScope st⟩
def dM (C m qual : Str) (st : Stmt) : He.FnD := ⟨(C, some m), m, qual, defArgs st, defBody st, defScope st⟩
def hfa0 : List He.Fa := [.int "AMOUNT_MOST" 99, .int "NAME" 0, .int "NEXT" 1, .int "TRAVEL" 2, .int "REACH" 3, .int "ROOM" 4, .int "HELD" 5, .int "INFLOWS" 6, .int "RECORD_RELEASES" 2, .int "RECORD_STORAGES" 3, .str "SOURCE" "source", .free "len", .free "range", .free "tuple", .free "list", .free "int", .free "bool", .free "str", .free "min", .free "sum", .free "isinstance", .free "enumerate", .free "zip", .cls "Arc", .glo "Arc", .mkr "Arc", .cls "Network", .glo "Network", .mkr "Network", .cls "Season"]
def hfa1 : List He.Fa := [.glo "Season", .mkr "Season", .noat "Arc" "tail", .noat "Arc" "head", .noat "Arc" "most", .noat "Arc" "flow", .noat "Arc" "is_fixed", .noat "Network" "basin", .noat "Network" "storages", .noat "Network" "releases", .noat "Network" "arcs", .noat "Season" "basin", .noat "Season" "rights", .noat "Season" "closed", .noat "Season" "lines", .glo "_law_draw", .keep "_law_draw", .glo "_law_basin", .keep "_law_basin", .meth "Season" "__init__", .glo "are_inflows", .keep "are_inflows", .glo "firsts", .keep "firsts", .glo "numbers_text", .keep "numbers_text", .glo "cells", .keep "cells", .glo "claims", .keep "claims"]
def hfa2 : List He.Fa := [.glo "site_number", .keep "site_number", .glo "claim_cell", .keep "claim_cell", .glo "claim_size", .keep "claim_size", .glo "cell_supply", .keep "cell_supply", .glo "let_to", .keep "let_to", .meth "Arc" "__init__", .meth "Network" "add", .meth "Network" "__init__", .glo "least", .keep "least", .meth "Arc" "ahead", .meth "Arc" "back", .meth "Network" "steps", .meth "Network" "steps_back", .meth "Network" "way", .meth "Network" "push", .glo "led", .keep "led", .glo "lessen", .keep "lessen", .glo "rows_of", .keep "rows_of", .glo "operation", .keep "operation", .glo "arriving"]
def hfa3 : List He.Fa := [.keep "arriving", .glo "rest_site", .keep "rest_site", .glo "rest_of", .keep "rest_of", .glo "rest_rights", .keep "rest_rights", .glo "let_from", .keep "let_from", .glo "received", .keep "received", .glo "spill", .keep "spill", .glo "cell_fault", .keep "cell_fault", .glo "month_fault", .keep "month_fault", .glo "plan_fault", .keep "plan_fault", .glo "spills", .keep "spills", .meth "Season" "month", .meth "Season" "close", .meth "Season" "records", .glo "_law_closed", .keep "_law_closed", .glo "_law_cell", .keep "_law_cell", .glo "_law_digits", .keep "_law_digits"]
def hfa4 : List He.Fa := [.glo "_law_place", .keep "_law_place", .glo "_law_claims", .keep "_law_claims", .glo "_law_cells", .keep "_law_cells", .glo "_law_enters", .keep "_law_enters", .glo "_law_regions", .keep "_law_regions", .glo "_law_greatest", .keep "_law_greatest", .glo "_law_receives", .keep "_law_receives", .glo "_law_plan_fault", .keep "_law_plan_fault", .glo "_law_demands", .keep "_law_demands", .glo "_law_rights", .keep "_law_rights", .glo "law", .keep "law"]
def hfa : List He.Fa := hfa0 ++ hfa1 ++ hfa2 ++ hfa3 ++ hfa4
def hfn0 : List He.FnD := [dG "_law_draw" (tp 55), dG "_law_basin" (tp 56), dM "Season" "__init__" "Season.__init__" (inClass (tp 51) 0), dG "are_inflows" (tp 45), dG "firsts" (tp 50), dG "numbers_text" (tp 30), dG "cells" (tp 14), dG "claims" (tp 11), dG "site_number" (tp 10), dG "claim_cell" (tp 12), dG "claim_size" (tp 13), dG "cell_supply" (tp 15), dG "let_to" (tp 16), dM "Arc" "__init__" "Arc.__init__" (inClass (tp 25) 0), dM "Network" "add" "Network.add" (inClass (tp 27) 1), dM "Network" "__init__" "Network.__init__" (inClass (tp 27) 0), dG "least" (tp 26), dM "Arc" "ahead" "Arc.ahead" (inClass (tp 25) 1), dM "Arc" "back" "Arc.back" (inClass (tp 25) 2), dM "Network" "steps" "Network.steps" (inClass (tp 27) 2), dM "Network" "steps_back" "Network.steps_back" (inClass (tp 27) 4), dM "Network" "way" "Network.way" (inClass (tp 27) 3), dM "Network" "push" "Network.push" (inClass (tp 27) 5), dG "led" (tp 28), dG "lessen" (tp 32), dG "rows_of" (tp 33), dG "operation" (tp 34), dG "arriving" (tp 46), dG "rest_site" (tp 47), dG "rest_of" (tp 48)]
def hfn1 : List He.FnD := [dG "rest_rights" (tp 49), dG "let_from" (tp 17), dG "received" (tp 36), dG "spill" (tp 37), dG "cell_fault" (tp 38), dG "month_fault" (tp 39), dG "plan_fault" (tp 40), dG "spills" (tp 41), dM "Season" "month" "Season.month" (inClass (tp 51) 2), dM "Season" "close" "Season.close" (inClass (tp 51) 1), dM "Season" "records" "Season.records" (inClass (tp 51) 5), dG "_law_closed" (tp 67), dG "_law_cell" (tp 53), dG "_law_digits" (tp 54), dG "_law_place" (tp 59), dG "_law_claims" (tp 61), dG "_law_cells" (tp 60), dG "_law_enters" (tp 62), dG "_law_regions" (tp 63), dG "_law_greatest" (tp 64), dG "_law_receives" (tp 65), dG "_law_plan_fault" (tp 66), dG "_law_demands" (tp 57), dG "_law_rights" (tp 58), dG "law" (tp 68)]
def hfn : List He.FnD := hfn0 ++ hfn1
def loose0 : List Str := ["_wall", "AMOUNT_MOST", "NAME", "NEXT", "TRAVEL", "REACH", "ROOM", "HELD", "INFLOWS", "site_number", "claims", "claim_cell", "claim_size", "cells", "cell_supply", "let_to", "let_from", "WaterError", "BadPlan", "BadArgument", "Ended", "SOURCE", "Arc", "least", "Network", "led", "numbers_text", "lessen", "rows_of", "operation"]
def loose1 : List Str := ["received", "spill", "cell_fault", "month_fault", "plan_fault", "spills", "RECORD_RELEASES", "RECORD_STORAGES", "are_inflows", "arriving", "rest_site", "rest_of", "rest_rights", "firsts", "Season", "_law_cell", "_law_digits", "_law_draw", "_law_basin", "_law_demands", "_law_rights", "_law_place", "_law_cells", "_law_claims", "_law_enters", "_law_regions", "_law_greatest", "_law_receives", "_law_plan_fault", "_law_closed"]
def loose : List Str := loose0 ++ loose1
abbrev R0 : PySem.W.OpenRow := PySem.W.OpenLaw.row PySem.Challenge.rw_heldwater_k44_months_add_up
abbrev hk : PySem.W.Hook := He.hookE 5 hfa hfn
def ob (s : PySem.W.SharedT) : He.Al := He.obsG 5 hfa hfn (HandSHeadRun.getT s)
theorem ob_eq (s : PySem.W.SharedT) : ob s = hk.obs s.abs := He.obsG_eq (HandSHeadRun.getT_eq s)
set_option maxHeartbeats 0 in
theorem run (w : World) : HandSHeadRun.RunEq R0 (PySem.W.view R0.prog [68]) hk ob 6000 loose w := by
  intro os
  kernel_rfl
end HW
end
section
/-! HWIter: pairs that come new at each turn: enumerate of a tuple, zip of a tuple and a list, items of a dict with tuple keys. -/
namespace HW
open PySem PySem.Spec PyProof.Rows L2

/-- n new pairs, the source known by G -/
def ItPr (n : Nat) (G : Hp → Prop) (f g : Nat → Option V) : It :=
  ⟨fun i H => i < n ∧ G H, fun i H v H' => ∃ T x y, v = .ref T ∧ H T = none ∧ H' = upd H T (.tup [x, y]) ∧ f i = some x ∧ g i = some y, fun i H => i = n ∧ G H⟩
theorem walk_pr {n : Nat} {G : Hp → Prop} {f g : Nat → Option V} : Walk (ItPr n G f g) n G (YPair f g) :=
  ⟨fun _ _ hi q => ⟨hi, q⟩, fun _ q => ⟨rfl, q⟩, fun _ _ _ _ _ _ y => y⟩

/-- what next hands out: a new tuple of two values that f, g tell -/
def NewPair (f g : Nat → Option V) (i : Nat) (h0 : Heap) (v : Value) (h : Heap) : Prop :=
  ∃ (T : Addr) (a b : Value) (x y : V), v = .ref T ∧ h0.objs.size ≤ T ∧ h.IsTuple T #[a, b] ∧ f i = some x ∧ g i = some y ∧ RelV x a ∧ RelV y b
theorem turn_pr {P : Program} {w : World} {K : PySem.W.Frag} {elts : List Expr} {kk : Nat} {tpos : Pos} {I0 : Addr} {mine wr : List Addr} {n : Nat} {G : Hp → Prop} {f g : Nat → Option V} {tn : Nat → Heap → Prop}
    (hmem : I0 ∈ mine) (hwr : ∀ b ∈ wr, b ∈ mine)
    (hobj : ∀ i h, tn i h → ∀ b ∈ mine, ∃ o, h.get? b = some o ∧ ∀ v, o.data ≠ .cell v)
    (hkeep : ∀ i h h', tn i h → (∀ b ∈ mine, ∀ o, h.get? b = some o → h'.get? b = some o) → tn i h')
    (hgo : ∀ (X : Cx), X.prog = P → X.w = w → X.K = K → X.calm = true → ∀ (pins : List (Addr × Obj)) (s : Shared) (σ : L2.St) (H : Hp), Inv X pins σ H s → G H →
      ∃ (fp : List Addr) (St : Nat → Heap → Prop), GoesN P w X.A (.Tuple elts kk tpos) I0 fp wr n (NewPair f g) St ∧ (∀ i, tn i s.heap → St i s.heap) ∧ ∀ i h, St i h → tn i h)
    (hself : ∀ (A : Around) (i : Nat) (s : Shared) (Q : Value → Shared → Prop) (E : Value → Shared → Prop), tn i s.heap → Q (.ref I0) s → wpAny (model P w) A (pyIter (.ref I0)) Q E s) :
    Turn P w K (.Tuple elts kk tpos) (ItPr n G f g) mine I0 tn where
  mem := hmem
  obj := hobj
  keep := hkeep
  item := by
    intro X hP hw hK hc i pins s σ H E I hf st hg
    obtain ⟨hi, hG⟩ := hg
    obtain ⟨fp, St, W, h1, h2⟩ := hgo X hP hw hK hc pins s σ H I hG
    refine wpAny_mono (W.goes i s _ E hi (h1 i st) fun v h' tk hy st' hk htk => ?_) (fun _ _ z => z) fun _ _ z => z
    obtain ⟨T, a, b, x, y, ev, hT, htup, ef, eg, ra, rb⟩ := hy
    have kk : ∀ c o, c ∉ mine → s.heap.get? c = some o → h'.get? c = some o := fun c o hc' e => hk c o (fun z => hc' (hwr c z)) e
    have new : ObjOk X.prog X.w (upd H T (.tup [x, y])) h' T (.tup [x, y]) := ⟨by show 2 ≤ sizeLine; decide, [a, b], .cons ra (.cons rb .nil), htup⟩
    have I1 : Inv X pins σ (upd H T (.tup [x, y])) { s with heap := h', toks := tk } := I.turnedNew (ch := mine) kk hf hT new
    refine ⟨.ref T, _, I1, ev, ⟨T, x, y, rfl, I.hok.fresh hT, rfl, ef, eg⟩, h2 _ _ st', fun c hc' => ?_⟩
    obtain ⟨o, eo, _⟩ := hobj i _ st c hc'
    rw [upd_ne (Nat.ne_of_lt (Nat.lt_of_lt_of_le (Heap.lt_size eo) hT))]
    exact (hf c hc').1
  done := by
    intro X hP hw hK hc i pins s σ H E I hf st hg
    obtain ⟨hi, hG⟩ := hg
    subst hi
    obtain ⟨fp, St, W, h1, h2⟩ := hgo X hP hw hK hc pins s σ H I hG
    refine wpAny_mono (W.stops s _ E (h1 i st) fun h' tk hk htk => ?_) (fun _ _ z => z) fun _ _ z => z
    exact I.turnedL (ch := mine) (fun c o hc' e => hk c o (fun z => hc' (hwr c z)) e) hf
  self := hself

/-! ### enumerate(v) without a start, of anything whose iterator is known to begin -/
theorem meets_enum1 {v : Value} {o : Obj} {Hh : Heap → Prop} (B : Begins v o Hh) :
    Meets (Builtin.«enumerate.__new__» ⟨[.type "enumerate", v], []⟩) fun _ R s => Hh s.heap ∧
      R (.ok (.ret (.ref (s.heap.push o).objs.size))) { s with heap := (s.heap.push o).push { cls := .type "enumerate", data := .fields #[.none, .bool false, .ref s.heap.objs.size, rawInt 0, .none, .none] } } := .of_wp fun prog w A R s h => by
  obtain ⟨heap0, gs, dr, tks, os0⟩ := s
  obtain ⟨hH, hR⟩ := h
  have hsub := sub_enumerate
  have begins : ∀ {A' : Around} {E : Value → Shared → Prop} {Q : Value → Shared → Prop}, Q (.ref heap0.objs.size) ⟨heap0.push o, gs, dr, tks, os0⟩ → wpAny (model prog w) A' (pyIter v) Q E ⟨heap0, gs, dr, tks, os0⟩ := fun z => B.iter prog w _ _ ⟨heap0, gs, dr, tks, os0⟩ _ hH z
  wp_walk using begins
  refine wpAny_stack_any fun frames => wpAny_pure ?_
  split
  · rename_i c _ _ _ _ _
    cases (c == Value.type "enumerate") <;> (wp_walk using begins; exact ⟨_, rfl, hR⟩)
  · wp_walk using begins
    exact ⟨_, rfl, hR⟩
section
variable {prog : Program} {w : World} {A : Around} {E : Value → Shared → Prop} {s : Shared}
theorem enum1_begins {v : Value} {o : Obj} {Hh : Heap → Prop} {Q : Value → Shared → Prop} (B : Begins v o Hh) (h1 : Hh s.heap)
    (h : ∀ h', IsEnum h' (s.heap.objs.size + 1) s.heap.objs.size 0 .none → h'.get? s.heap.objs.size = some o → h'.objs.size = s.heap.objs.size + 2 →
      (∀ b u, s.heap.get? b = some u → h'.get? b = some u) → Q (.ref (s.heap.objs.size + 1)) { s with heap := h' }) : wpAny (model prog w) A (call (.type "enumerate") [v]) Q E s := by
  refine callType_new F.called_enumerate (by decide) (F.typeCall_enumerate_1 _) (F.newCall_enumerate_1 _) (fun obj => F.args_object_init_2 obj _) F.entry_enumerate_new (meets_enum1 B) ⟨h1, ?_⟩
  have size1 : (s.heap.push o).objs.size = s.heap.objs.size + 1 := Heap.size_push ..
  have two : ∀ (u : Obj), ((s.heap.push o).push u).objs.size = s.heap.objs.size + 2 := fun u => by rw [Heap.size_push, size1]
  show _ ∧ _
  rw [size1]
  have at1 : ((s.heap.push o).push { cls := .type "enumerate", data := .fields #[.none, .bool false, .ref s.heap.objs.size, rawInt 0, .none, .none] }).get? (s.heap.objs.size + 1) = some { cls := .type "enumerate", data := .fields #[.none, .bool false, .ref s.heap.objs.size, rawInt 0, .none, .none] } := by
    rw [← size1]; exact Heap.get?_push_size _ rfl
  exact ⟨⟨_, at1, rfl⟩, h _ at1 (Heap.get?_push_of_some _ (Heap.get?_push_size _ B.free)) (two _) fun b u e => Heap.get?_push_of_some _ (Heap.get?_push_of_some _ e)⟩
end
theorem turn_enumT {P : Program} {w : World} {K : PySem.W.Frag} {elts : List Expr} {kk : Nat} {tpos : Pos} {a N : Addr} {xs : List V} (alt : a < N) :
    Turn P w K (.Tuple elts kk tpos) (ItPr xs.length (fun H => SqT K H a xs) (fun i => some (.int (i : Nat))) fun i => xs[i]?) [N + 1, N] (N + 1) fun i h => (∃ old, IsEnum h (N + 1) N (0 + (i : Int)) old) ∧ h.IsTupleIter N a i := by
  refine turn_pr (wr := [N + 1, N]) (by simp) (fun b hb => hb) (fun i h st b hb => ?_) (fun i h h' st k => ?_) (fun X' hP hw hK hc pins' s' σ' H' I' hG => ?_) fun A i s' Q E st hQ => ?_
  · obtain ⟨⟨old, he'⟩, ⟨o, ho, hc, hd⟩⟩ := st
    have e' : b = N + 1 ∨ b = N := by simpa using hb
    rcases e' with z | z
    · rw [z]; exact ⟨_, he', fun v q => nomatch q⟩
    · rw [z]; exact ⟨o, ho, fun v q => by rw [hd] at q; cases q⟩
  · obtain ⟨⟨old, he'⟩, o, ho, hc, hd⟩ := st
    exact ⟨⟨old, k _ (by simp) _ he'⟩, o, k _ (by simp) _ ho, hc, hd⟩
  · subst hP hw hK
    obtain ⟨its', rv', tup', _⟩ := I'.tuple hG
    have tup' : s'.heap.IsTuple a its'.toArray := tup'
    have len : its'.toArray.size = xs.length := by rw [List.size_toArray]; exact rv'.length.symm
    have D := Draws.tuple (prog := X'.prog) (w := X'.w) (A := X'.A.in1) (I'.ok.hd hc) N a (Nat.ne_of_lt alt) its'.toArray
    rw [len] at D
    refine ⟨_, _, (GoesN.enumFrom (elts := elts) (x1 := kk) (pos := tpos) 0 D (N + 1) (Nat.succ_ne_self N) (fun m => ?_) (by simp)).mono fun i h0 v h hi y => ?_, fun i st => ⟨st.1, st.2, tup'⟩, fun i h st => ⟨st.1, st.2.1⟩⟩
    · have e' : N + 1 = N ∨ N + 1 = a := by simpa using m
      have alt' : a < N := alt
      rcases e' with z | z
      · exact Nat.succ_ne_self N z
      · rw [← z] at alt'
        exact absurd alt' (Nat.not_lt.mpr (Nat.le_succ N))
    · obtain ⟨T, t, u, ev, hT, hu, ht⟩ := y
      have hx : xs[i]? = some xs[i] := List.getElem?_eq_getElem hi
      obtain ⟨u', hu', ru⟩ := rv'.get hx
      have e : u' = u := by
        have : its'.toArray[i]? = some u' := by simpa using hu'
        rw [this] at hu
        exact Option.some.inj hu
      subst e
      refine ⟨T, _, _, .int (i : Nat), xs[i], ev, hT, ht, rfl, hx, ⟨t, ?_⟩, ru⟩
      rw [Int.zero_add]
  · obtain ⟨⟨old, he'⟩, _⟩ := st
    exact wpAny_pyIter_enum he' hQ
def iEnumT (K : PySem.W.Frag) (ta : TA) : TI := fun σ H R => ta σ H fun vs H1 => ∃ a xs, vs = [.ref a] ∧ SqT K H1 a xs ∧ R (ItPr xs.length (fun H => SqT K H a xs) (fun i => some (.int (i : Nat))) fun i => xs[i]?) H1
theorem pi_enumT {X : Cx} {e : Expr} {ta : TA} {p pos tpos : Pos} {elts : List Expr} {kk : Nat} (hg : Gl X "enumerate") (hm : X.mg "enumerate" = none) (ha : PA X [e] ta) (hs : starEach [e] X.env = [(false, eval e X.env)] := by rfl) :
    PI X (.Tuple elts kk tpos) (.Call (.Name "enumerate" p) [e] [] pos) (iEnumT X.K ta) := by
  refine ⟨fun pins s σ H R I h => ?_⟩
  refine Call_ (ld_blt I hg hm boot_enumerate (PyProof.Rows.callWith_type1 (thn (ha.run pos pins s σ H _ I h) fun us s1 ⟨vs, H1, I1, r1, q1⟩ => ?_) hs rfl))
  obtain ⟨a, xs, ex, hq, q⟩ := q1
  subst ex
  cases r1 with
  | cons r rr =>
    cases rr
    cases r
    obtain ⟨its, rv, tup, hz⟩ := I1.tuple hq
    have tup : s1.heap.IsTuple a its.toArray := tup
    have alt : a < s1.heap.objs.size := by obtain ⟨o, e, _⟩ := tup; exact Heap.lt_size e
    refine enum1_begins (begins_tuple a its.toArray) tup fun h' he hit hsz hk => wpAny_pyIter_enum he ?_
    have I2 : Inv X pins σ H1 { s1 with heap := h' } := I1.kept (t' := s1.toks) hk
    refine ⟨s1.heap.objs.size + 1, [s1.heap.objs.size + 1, s1.heap.objs.size], _, _, H1, rfl, I2, turn_enumT alt, ⟨⟨.none, by rw [show (0 : Int) + ((0 : Nat) : Int) = 0 from rfl]; exact he⟩, _, hit, rfl, rfl⟩, fun b hb => ?_, q⟩
    have e' : b = s1.heap.objs.size + 1 ∨ b = s1.heap.objs.size := by simpa using hb
    have hle : s1.heap.objs.size ≤ b := by
      rcases e' with z | z
      · rw [z]; exact Nat.le_succ _
      · rw [z]; exact Nat.le_refl _
    exact I1.fpOk hle (I1.hok.fresh hle)

/-! ### zip of a tuple and a list -/
theorem turn_zipTL {P : Program} {w : World} {K : PySem.W.Frag} {elts : List Expr} {kk : Nat} {tpos : Pos} {a b N : Addr} {xs ys : List V} (alt : a < N) (blt : b < N) (hl : xs.length = ys.length) :
    Turn P w K (.Tuple elts kk tpos) (ItPr xs.length (fun H => SqT K H a xs ∧ SqL K H b ys) (fun i => xs[i]?) fun i => ys[i]?) [N + 4, N + 2, N + 3, N, N + 1] (N + 4) fun i h =>
      IsZip h (N + 4) (N + 2) (N + 3) .none ∧ IsTupOf2 h (N + 2) (.ref N) (.ref (N + 1)) ∧ (∃ u v, IsTupOf2 h (N + 3) u v) ∧ h.IsTupleIter N a i ∧ h.IsListIter (N + 1) b i := by
  refine turn_pr (wr := [N + 4, N + 3, N, N + 1]) (by simp) (fun c hc => ?_) (fun i h st c hc => ?_) (fun i h h' st k => ?_) (fun X' hP hw hK hc pins' s' σ' H' I' hG => ?_) fun A i s' Q E st hQ => ?_
  · have e' : c = N + 4 ∨ c = N + 3 ∨ c = N ∨ c = N + 1 := by simpa using hc
    rcases e' with z | z | z | z <;> simp [z]
  · obtain ⟨s1, s2, ⟨u, v, s3⟩, ⟨o1, h1, c1, d1⟩, ⟨o2, h2, c2, d2⟩⟩ := st
    have e' : c = N + 4 ∨ c = N + 2 ∨ c = N + 3 ∨ c = N ∨ c = N + 1 := by simpa using hc
    rcases e' with z | z | z | z | z
    · rw [z]; exact ⟨_, s1, fun v q => nomatch q⟩
    · rw [z]; exact ⟨_, s2, fun v q => nomatch q⟩
    · rw [z]; exact ⟨_, s3, fun v q => nomatch q⟩
    · rw [z]; exact ⟨o1, h1, fun v q => by rw [d1] at q; cases q⟩
    · rw [z]; exact ⟨o2, h2, fun v q => by rw [d2] at q; cases q⟩
  · obtain ⟨s1, s2, ⟨u, v, s3⟩, ⟨o1, h1, c1, d1⟩, ⟨o2, h2, c2, d2⟩⟩ := st
    exact ⟨k _ (by simp) _ s1, k _ (by simp) _ s2, ⟨u, v, k _ (by simp) _ s3⟩, ⟨o1, k _ (by simp) _ h1, c1, d1⟩, ⟨o2, k _ (by simp) _ h2, c2, d2⟩⟩
  · subst hP hw hK
    obtain ⟨i1, r1, t1, _⟩ := I'.tuple hG.1
    obtain ⟨i2, r2, t2, _⟩ := I'.list hG.2
    have t1 : s'.heap.IsTuple a i1.toArray := t1
    have t2 : s'.heap.IsList b i2.toArray := t2.isList
    have n1 : i1.toArray.size = xs.length := by rw [List.size_toArray]; exact r1.length.symm
    have n2 : i2.toArray.size = xs.length := by rw [List.size_toArray, hl]; exact r2.length.symm
    have D1 := Draws.tuple (prog := X'.prog) (w := X'.w) (A := X'.A.in1) (I'.ok.hd hc) N a (Nat.ne_of_lt alt) i1.toArray
    have D2 := Draws.list (prog := X'.prog) (w := X'.w) (A := X'.A.in1) (I'.ok.hd hc) (N + 1) b (Nat.ne_of_lt (Nat.lt_succ_of_lt blt)) i2.toArray
    rw [n1] at D1
    rw [n2] at D2
    have S : ZipSep2 (N + 4) (N + 2) (N + 3) N (N + 1) [N, a] [N + 1, b] := zip_sep2 (fun c hc => by rw [List.mem_singleton.mp hc]; exact alt) (fun c hc => by rw [List.mem_singleton.mp hc]; exact blt)
    have W := GoesN.zip2 (elts := elts) (x1 := kk) (pos := tpos) S D1 D2
    rw [Nat.min_self] at W
    refine ⟨_, _, W.mono fun i h0 v h hi y => ?_, fun i st => ⟨st.1, st.2.1, st.2.2.1, ⟨st.2.2.2.1, t1⟩, ⟨st.2.2.2.2, t2⟩⟩, fun i h st => ⟨st.1, st.2.1, st.2.2.1, st.2.2.2.1.1, st.2.2.2.2.1⟩⟩
    obtain ⟨T, u, v', ev, hT, hu, hv, ht⟩ := y
    have hx : xs[i]? = some xs[i] := List.getElem?_eq_getElem hi
    have hy : ys[i]? = some (ys[i]'(hl ▸ hi)) := List.getElem?_eq_getElem _
    obtain ⟨u', hu', ru⟩ := r1.get hx
    obtain ⟨w', hw', rw'⟩ := r2.get hy
    have e1 : u' = u := by
      have : i1.toArray[i]? = some u' := by simpa using hu'
      rw [this] at hu
      exact Option.some.inj hu
    have e2 : w' = v' := by
      have : i2.toArray[i]? = some w' := by simpa using hw'
      rw [this] at hv
      exact Option.some.inj hv
    subst e1 e2
    exact ⟨T, _, _, _, _, ev, hT, ht, hx, hy, ru, rw'⟩
  · exact wpAny_pyIter_zip st.1 hQ
def iZipTL (K : PySem.W.Frag) (ta : TA) : TI := fun σ H R => ta σ H fun vs H1 => ∃ a b xs ys, vs = [.ref a, .ref b] ∧ SqT K H1 a xs ∧ SqL K H1 b ys ∧ xs.length = ys.length ∧ R (ItPr xs.length (fun H => SqT K H a xs ∧ SqL K H b ys) (fun i => xs[i]?) fun i => ys[i]?) H1
theorem pi_zipTL {X : Cx} {e e2 : Expr} {ta : TA} {p pos tpos : Pos} {elts : List Expr} {kk : Nat} (hg : Gl X "zip") (hm : X.mg "zip" = none) (ha : PA X [e, e2] ta)
    (hs : starEach [e, e2] X.env = (false, eval e X.env) :: starEach [e2] X.env := by rfl) (hpl : (backTo pos (starEach [e2] X.env)).any (·.1) = false := by rfl) :
    PI X (.Tuple elts kk tpos) (.Call (.Name "zip" p) [e, e2] [] pos) (iZipTL X.K ta) := by
  refine ⟨fun pins s σ H R I h => ?_⟩
  refine Call_ (ld_blt I hg hm PyProof.Rows.boot_zip (PyProof.Rows.callWith_type1 (thn (ha.run pos pins s σ H _ I h) fun us s1 ⟨vs, H1, I1, r1, q1⟩ => ?_) hs hpl))
  obtain ⟨a, b, xs, ys, ex, hqx, hqy, hl, q⟩ := q1
  subst ex
  cases r1 with
  | cons r rr =>
    cases rr with
    | cons r' rr =>
      cases rr
      cases r
      cases r'
      obtain ⟨i1, r1, t1, _⟩ := I1.tuple hqx
      obtain ⟨i2, r2, t2, _⟩ := I1.list hqy
      have t1 : s1.heap.IsTuple a i1.toArray := t1
      have t2 : s1.heap.IsList b i2.toArray := t2.isList
      have alt : a < s1.heap.objs.size := by obtain ⟨o, e, _⟩ := t1; exact Heap.lt_size e
      have blt : b < s1.heap.objs.size := by obtain ⟨o, e, _⟩ := t2; exact Heap.lt_size e
      refine zip_begins2 (begins_tuple a i1.toArray) (begins_list b i2.toArray) t1 t2 fun h' hz hTI hTO h1 h2 hsz hk => wpAny_pyIter_zip hz ?_
      have I2 : Inv X pins σ H1 { s1 with heap := h' } := I1.kept (t' := s1.toks) hk
      refine ⟨s1.heap.objs.size + 4, [s1.heap.objs.size + 4, s1.heap.objs.size + 2, s1.heap.objs.size + 3, s1.heap.objs.size, s1.heap.objs.size + 1], _, _, H1, rfl, I2, turn_zipTL alt blt hl, ⟨hz, hTI, ⟨_, _, hTO⟩, ⟨_, h1, rfl, rfl⟩, ⟨_, h2, rfl, rfl⟩⟩, fun c hc => ?_, q⟩
      have hle : s1.heap.objs.size ≤ c := by
        have e' : c = s1.heap.objs.size + 4 ∨ c = s1.heap.objs.size + 2 ∨ c = s1.heap.objs.size + 3 ∨ c = s1.heap.objs.size ∨ c = s1.heap.objs.size + 1 := by simpa using hc
        rcases e' with z | z | z | z | z
        · rw [z]; exact Nat.le_add_right _ _
        · rw [z]; exact Nat.le_add_right _ _
        · rw [z]; exact Nat.le_add_right _ _
        · rw [z]; exact Nat.le_refl _
        · rw [z]; exact Nat.le_add_right _ _
      exact I1.fpOk hle (I1.hok.fresh hle)

/-! ### items of a locked dict with tuple keys -/
/-- the entries of a locked dict with tuple keys; qs: where the keys stand -/
structure Ents (H : Hp) (o : Obj) (kvs : List (List L2.Key × V)) (es : Array DictEntry) (qs : List Addr) : Prop where
  n : es.size = kvs.length
  q : qs.length = kvs.length
  key : ∀ (i : Nat) (e : DictEntry) (a : Addr), es[i]? = some e → qs[i]? = some a → e.key = .ref a
  tup : ∀ (i : Nat) (k : List L2.Key) (v : V) (a : Addr), kvs[i]? = some (k, v) → qs[i]? = some a → H a = some (.tup (k.map kV))
  val : ∀ (i : Nat) (k : List L2.Key) (v : V) (e : DictEntry), kvs[i]? = some (k, v) → es[i]? = some e → RelV v e.val
theorem ents_of {X : Cx} {pins : List (Addr × Obj)} {σ : L2.St} {H : Hp} {s : Shared} {d : Addr} {o : Obj} {kvs : List (List L2.Key × V)} (I : Inv X pins σ H s) (h : H d = some (.frz o (.dT kvs))) :
    (d == sysModules) = false ∧ s.heap.get? d = some o ∧ o.ExactDict ∧ ∃ (es : Array DictEntry) (ep : Nat), o.data = .dict es ep ∧ ∃ qs, Ents H o kvs es qs := by
  obtain ⟨at_, fit, notm, xs, rel, o2, es, ep, at2, exact_, dat, ents, _⟩ := I.hok d _ h
  rw [at_] at at2
  cases at2
  have l1 : es.size = xs.length := size_of_entries ents
  have l2 : kvs.length = xs.length := Paired.length rel
  refine ⟨notm, at_, exact_, es, ep, dat, xs.map fun x => x.2.1, by omega, by simp [l2], fun i e a e1 e2 => ?_, fun i k v a e1 e2 => ?_, fun i k v e e1 e2 => ?_⟩
  · rw [List.getElem?_map] at e2
    obtain ⟨x, hx, rfl⟩ := Option.map_eq_some_iff.mp e2
    have := entry_at ents i
    rw [hx, e1] at this
    cases this
    rfl
  · rw [List.getElem?_map] at e2
    obtain ⟨x, hx, rfl⟩ := Option.map_eq_some_iff.mp e2
    obtain ⟨x', hx', r1, r2, r3⟩ := paired_get rel e1
    rw [hx] at hx'
    cases hx'
    exact r2
  · obtain ⟨x, hx, r1, r2, r3⟩ := paired_get rel e1
    have := entry_at ents i
    rw [hx, e2] at this
    cases this
    exact r3
theorem turn_itemsT {P : Program} {w : World} {K : PySem.W.Frag} {elts : List Expr} {kk : Nat} {tpos : Pos} {d N : Addr} {o : Obj} {kvs : List (List L2.Key × V)} {es : Array DictEntry} {ep : Nat} {qs : List Addr} (dlt : d < N) (hdat : o.data = .dict es ep) (hn : es.size = kvs.length)
    (hk : ∀ (i : Nat) (e : DictEntry) (a : Addr), es[i]? = some e → qs[i]? = some a → e.key = .ref a) (hq : qs.length = kvs.length) :
    Turn P w K (.Tuple elts kk tpos) (ItPr kvs.length (fun H => H d = some (.frz o (.dT kvs))) (fun i => qs[i]?.map V.ref) fun i => kvs[i]?.map fun p => p.2) [N] N fun i h => ∃ u v, IsItemIter h N d i kvs.length ep u v := by
  refine turn_pr (wr := [N]) (by simp) (fun c hc => hc) (fun i h st c hc => ?_) (fun i h h' st k => ?_) (fun X' hP hw hK hc pins' s' σ' H' I' hG => ?_) fun A i s' Q E st hQ => ?_
  · obtain ⟨u, v, e⟩ := st
    rw [List.mem_singleton.mp hc]
    exact ⟨_, e, fun v q => nomatch q⟩
  · obtain ⟨u, v, e⟩ := st
    exact ⟨u, v, k _ (by simp) _ e⟩
  · subst hP hw hK
    obtain ⟨_, at_, ex, es', ep', dat', qs', E⟩ := ents_of I' hG
    obtain ⟨rfl, rfl⟩ := dict_ep hdat dat'
    have W := GoesN.rawItems (prog := X'.prog) (w := X'.w) (A := X'.A) (elts := elts) (x1 := kk) (pos := tpos) (I'.ok.hd hc) N d (Nat.ne_of_lt dlt) es' ep'
    have W2 := W.mono (Y' := NewPair (fun i => qs[i]?.map V.ref) fun i => kvs[i]?.map fun p => p.2) fun i h0 v h hi y => by
      obtain ⟨T, hi', ev, hT, ht⟩ := y
      have hi2 : i < kvs.length := by omega
      have hi3 : i < qs.length := by omega
      have e1 : es'[i]? = some es'[i] := Array.getElem?_eq_getElem hi'
      have e2 : qs[i]? = some qs[i] := List.getElem?_eq_getElem hi3
      have e3 : kvs[i]? = some kvs[i] := List.getElem?_eq_getElem hi2
      exact ⟨T, _, _, .ref qs[i], kvs[i].2, ev, hT, ht, by show qs[i]?.map V.ref = _; rw [e2]; rfl, by show kvs[i]?.map _ = _; rw [e3]; rfl, hk i _ _ e1 e2, E.val i kvs[i].1 kvs[i].2 _ e3 e1⟩
    rw [hn] at W2
    exact ⟨_, _, W2, fun i st => ⟨st, o, at_, ex, dat'⟩, fun i h st => st.1⟩
  · obtain ⟨u, v, e⟩ := st
    exact wpAny_pyIter_itemiter e hQ
def iItemsT (td : TE) : TI := fun σ H R => td σ H fun x H1 => ∃ d o kvs, x = .ref d ∧ H1 d = some (.frz o (.dT kvs)) ∧ ∀ qs : List Addr, qs.length = kvs.length →
  (∀ (i : Nat) (k : List L2.Key) (v : V) (a : Addr), kvs[i]? = some (k, v) → qs[i]? = some a → H1 a = some (.tup (k.map kV))) →
  R (ItPr kvs.length (fun H => H d = some (.frz o (.dT kvs))) (fun i => qs[i]?.map V.ref) fun i => kvs[i]?.map fun p => p.2) H1
theorem pi_itemsT {X : Cx} {e : Expr} {td : TE} {apos cpos tpos : Pos} {elts : List Expr} {kk : Nat} (he : PE X e td) (hbase : attributeBase e "items" X.env (eval e X.env) = eval e X.env := by rfl) (hline : (apos.endLine == cpos.line) = true := by rfl) :
    PI X (.Tuple elts kk tpos) (.Call (.Attribute e "items" apos) [] [] cpos) (iItemsT td) := by
  refine ⟨fun pins s σ H R I h => ?_⟩
  refine wpAny_Call_method (T := "dict") (id := "dict.items") hbase rfl hline F.plainAttrs_dict F.slot_dict_items F.type_dict_items ?_
  refine thn (he.run pins s σ H _ I h) fun u s1 ⟨x, H1, I1, rx, d, o, kvs, ex, hd, q⟩ => ?_
  subst ex
  obtain rfl : u = Value.ref d := rx
  obtain ⟨notm, at_, exact_, es, ep, dat, qs, E⟩ := ents_of I1 hd
  have raw : s1.heap.DictRaw d es ep := ⟨o, at_, exact_, dat⟩
  have dlt : d < s1.heap.objs.size := Heap.lt_size at_
  refine ⟨raw.typeIs, fun b e => by cases e; exact ⟨o, at_, exact_.2.1⟩, ?_⟩
  show wpAny _ _ (callWith cpos (.builtin "dict.items") [.ref d] [] []) _ X.xe s1
  refine method_meetsIn F.slot_dict_items F.entry_dict_items rfl (PySem.evalArgs_none ⟨rfl, raw.typeIs, F.args_dict_items_1 _, _, meets_dict_items_raw d notm, ⟨es, ep, raw⟩, ?_⟩)
  have I2 : Inv X pins σ H1 { s1 with heap := s1.heap.push { cls := .type "dict_items", data := .fields #[.ref d] } } := I1.kept (t' := s1.toks) fun b ob z => Heap.get?_push_of_some _ z
  have raw2 : (s1.heap.push { cls := .type "dict_items", data := .fields #[.ref d] }).DictRaw d es ep := ⟨o, Heap.get?_push_of_some _ at_, exact_, dat⟩
  have dlt2 : d < (s1.heap.push { cls := .type "dict_items", data := .fields #[.ref d] }).objs.size := by rw [Heap.size_push]; exact Nat.lt_succ_of_lt dlt
  refine wpAny_pyIter_items_raw (d := d) ⟨_, Heap.get?_push_size _ rfl, rfl, rfl⟩ raw2 ?_
  refine pi_one (tk := s1.toks) I2 _ (turn_itemsT dlt2 dat E.n E.key E.q) ⟨.none, .none, ?_⟩ (q qs E.q E.tup)
  rw [← E.n]
  exact Heap.get?_push_size _ rfl
end HW
end
section
/-! HWDictComp: dict comprehensions whose keys are tuples. -/
namespace HW
open PySem PySem.Spec PyProof.Rows L2

/-- the comprehension stores one pair more -/
theorem store_pair {X : Cx} {pins : List (Addr × Obj)} {σ : L2.St} {H : Hp} {s : Shared} {E : Value → Shared → Prop} {D b : Addr} {kvs : List (List L2.Key × V)} {k : List L2.Key} {v : V} {u r : Value} {Q : Unit → Shared → Prop} (hu : X.A.units + 1 < cLine)
    (I : Inv X pins σ H s) (hD : H D = some (.dT kvs)) (hb : H b = some (.tup (k.map kV))) (fits : kvs.length < sizeLine) (ru : RelV (.ref b) u) (rv : RelV v r)
    (h : ∀ s', Inv X pins σ (upd H D (.dT (putK kvs k v))) s' → Q () s') : wpAny (model X.prog X.w) X.A (dictSet D u r) Q E s := by
  obtain ⟨z, hd, xs, rel, dd⟩ := dt_of I.hok hD
  cases (show u = Value.ref b from ru)
  have hz : xs.length ≤ sizeLine := by rw [← Paired.length rel]; exact z
  have hl : (putK kvs k v).length ≤ sizeLine := by have := length_putK kvs k v; omega
  have room : (tupleKind (mixKind X.prog X.w)).room X.A := by
    show _ < cLine
    omega
  refine wpAny_dictSet_heap (hsz := hz) room (key_of I.hok hb) dd fun h' dd' hs => h _ ?_
  obtain ⟨q, es, ep, hq, h2, h3, h4, _, h5⟩ := dd'
  refine d_write I (by rw [hD]; exact True.intro) hs ⟨q, hq⟩ ⟨hl, hd, _, (rel.put k hb rv).keeps fun c ys ec => ?_, q, es, ep, hq, h2, h3, h4, h5⟩
  exact (upd_ne (ne_of ec hD fun z => nomatch z)).trans ec

section
variable {X : Cx}
def tDcT (wi : TI) (g : TG) (tt : TT) (tk tv : TE) (vs : List Nat) : TE := fun σ H Q => wi σ H fun J H1 => ∀ D, H1 D = none → ∃ W : Nat → Nat → Hp → Prop, (∃ m, W 0 m (upd H1 D (.dT []))) ∧ ∀ i m H, W i m H →
  (J.stop i H ∧ Q (.ref D) H) ∨ (J.go i H ∧ ∃ Nx : Hp → Prop, (∀ H', Nx H' → ∃ m', m' < m ∧ W (i + 1) m' H') ∧ ∀ x H', J.yld i H x H' → g x (wipe σ vs) H' fun σ2 H2 => wipe σ2 vs = wipe σ vs ∧ tt σ2 H2 fun b H3 =>
    if b = true then tk σ2 H3 fun y H4 => tv σ2 H4 fun z H5 => ∃ kvs k q, y = .ref q ∧ H5 q = some (.tup (k.map kV)) ∧ H5 D = some (.dT kvs) ∧ kvs.length < sizeLine ∧ Nx (upd H5 D (.dT (putK kvs k z))) else Nx H3)
theorem dcT_run {pins : List (Addr × Obj)} {s : Shared} {σ : L2.St} {H : Hp} {Q : VK} {kx vx tg iter : Expr} {ifs : List Expr} {scope : Scope} {own : List (Str × Nat)} {pos pos' : Pos} {wi : TI} {g : TG} {tt : TT} {tk tv : TE} {use : Option (Value → Sem Unit)} {Qf : Value → Shared → Prop} (hu : X.A.units + 1 < cLine) (hc : X.calm = true) (hN : X.N.Nodup) (I : Inv X pins σ H s) (hi : PI X tg iter wi) (ok : BlkOk X.N X.env.scope scope own)
    (hg : ∀ (s : Shared) (H : Hp) (C : Addr) (cl : List (Str × Addr)) (fp : List Addr), PG (X.blk s H scope (compEnvC scope cl C X.env) fp) tg g)
    (ht : ∀ (s : Shared) (H : Hp) (C : Addr) (cl : List (Str × Addr)) (fp : List Addr), PTs (X.blk s H scope (compEnvC scope cl C X.env) fp) ifs tt)
    (hk : ∀ (s : Shared) (H : Hp) (C : Addr) (cl : List (Str × Addr)) (fp : List Addr), PE (X.blk s H scope (compEnvC scope cl C X.env) fp) kx tk)
    (hv : ∀ (s : Shared) (H : Hp) (C : Addr) (cl : List (Str × Addr)) (fp : List Addr), PE (X.blk s H scope (compEnvC scope cl C X.env) fp) vx tv) (hs : ∀ x, foldedSetIterable iter X.env x = pure x)
    (h : tDcT wi g tt tk tv (own.map (·.2)) σ H Q)
    (hend : ∀ D C s' m H', Inv X pins σ H' s' → Q (.ref D) H' → s'.heap.Ns C m → FpOk X pins H' C → compPost (model X.prog X.w) X.A X.xe use Qf (.ref D) C (.ok .next) s') :
    wpAny (model X.prog X.w) X.A (comprehension (.DictComp kx vx [⟨tg, iter, ifs, 0⟩] scope pos) scope X.env pos' newDict false (eval iter X.env) use) Qf X.xe s := by
  have captured : ∀ y ∈ scope.names, y.2 = .free → ∃ c, X.env.cells.lookup y.1 = some c := fun y hy e => (ok.free y hy e).elim (fun k => I.ok.has _ (.inl k)) fun k => I.ok.has _ (.inr k)
  refine wpAny_comprehension_free (use := use) rfl hs (closure_ok captured) ok.kind (fun y hy e => by rw [ok.uniq y hy, e]) (thn (hi.run pins s σ H _ I h) fun src s1 h1 => thn h1 fun itv s2 h2 => ?_)
  obtain ⟨it, fp, tn, J, H2, rfl, I2, T, st2, f2, q⟩ := h2
  refine wpAny_newObj_type (newEnv_comp ?_)
  have newD : H2 s2.heap.objs.size = none := I2.hok.fresh (Nat.le_refl _)
  obtain ⟨W, ⟨m0, w0⟩, turns⟩ := q s2.heap.objs.size newD
  generalize hD : s2.heap.objs.size = D at newD w0 turns
  -- the state with the empty dict at D
  generalize hs3 : ({ s2 with heap := s2.heap.push { cls := .type "dict", data := .dict #[] } } : Shared) = s3
  have heap3 : s3.heap = s2.heap.push { cls := .type "dict", data := .dict #[] } := by rw [← hs3]
  have I3 : Inv X pins σ (upd H2 D (.dT [])) s3 := by
    rw [← hs3, ← hD]
    exact I2.laid (t' := s2.toks) (fun b o e => Heap.get?_push_of_some _ e) (Nat.le_refl _) (dt_empty s2.heap I2.big)
  have inside : ∀ b ∈ fp, b < s2.heap.objs.size := fun b hb => let ⟨o, e, _⟩ := T.obj _ _ st2 b hb; Heap.lt_size e
  have f3 : ∀ b ∈ fp, FpOk X pins (upd H2 D (.dT [])) b ∧ b < s3.heap.objs.size := fun b hb => by
    have lt := inside b hb
    constructor
    · exact ⟨(upd_ne (by rw [← hD]; exact Nat.ne_of_lt lt)).trans (f2 b hb).1, (f2 b hb).2⟩
    · rw [heap3, Heap.size_push]; exact Nat.lt_succ_of_lt lt
  have st3 : tn 0 s3.heap := T.keep _ _ _ st2 fun b _ o e => by rw [heap3]; exact Heap.get?_push_of_some _ e
  have I4 := block_start I3 ok hN f3
  generalize hce : compEnvC scope (cellsFrom (s3.heap.objs.size + 1) scope.names (cloFrom X.env.cells scope.names [])) s3.heap.objs.size X.env = ce at I4
  have pg := hg s3 (upd H2 D (.dT [])) s3.heap.objs.size (cellsFrom (s3.heap.objs.size + 1) scope.names (cloFrom X.env.cells scope.names [])) fp
  have pt := ht s3 (upd H2 D (.dT [])) s3.heap.objs.size (cellsFrom (s3.heap.objs.size + 1) scope.names (cloFrom X.env.cells scope.names [])) fp
  have pk := hk s3 (upd H2 D (.dT [])) s3.heap.objs.size (cellsFrom (s3.heap.objs.size + 1) scope.names (cloFrom X.env.cells scope.names [])) fp
  have pv := hv s3 (upd H2 D (.dT [])) s3.heap.objs.size (cellsFrom (s3.heap.objs.size + 1) scope.names (cloFrom X.env.cells scope.names [])) fp
  rw [hce] at pg pt pk pv
  have home : ce.locals = s3.heap.objs.size := by rw [← hce]; rfl
  have nofp : ∀ b ∈ fp, (upd H2 D (.dT [])) b = none := fun b hb => (f3 b hb).1.1
  generalize hH3 : upd H2 D (.dT []) = H3 at I3 I4 pg pt pk pv w0 nofp f3
  generalize hs4 : ({ s3 with heap := pushCells (s3.heap.push { cls := .type "dict", data := .dict #[] }) scope.names } : Shared) = s4 at I4
  have st4 : tn 0 s4.heap := T.keep _ _ _ st3 fun b _ o e => by rw [← hs4]; exact pushCells_keeps _ _ _ _ (Heap.get?_push_of_some _ e)
  have still : ∀ {σ' : L2.St} {H' : Hp} {s' : Shared}, Inv (X.blk s3 H3 scope ce fp) [] σ' H' s' → (∀ b ∈ fp, H' b = none) → ∀ b ∈ fp, FpOk (X.blk s3 H3 scope ce fp) [] H' b := fun {σ' H' s'} I' hn b hb =>
    ⟨hn b hb, (I'.ok.exf b hb).1, I'.ok.exfs b hb, .inl hb, fun x c e => (I'.ok.exf b hb).2 x c e, fun p hp => absurd (show p ∈ ([] : List (Addr × Obj)) ++ [] from hp) (by simp)⟩
  have loop : codeAny (model X.prog X.w) X.A (.compLoop (.DictComp kx vx [⟨tg, iter, ifs, 0⟩] scope pos) 0 (.ref it) (.ref D) ce) (compPost (model X.prog X.w) X.A X.xe use Qf (.ref D) s3.heap.objs.size) s4 := by
    refine compLoop_anyD (fun m s' => ∃ i H', Inv (X.blk s3 H3 scope ce fp) [] (wipe σ (own.map (·.2))) H' s' ∧ tn i s'.heap ∧ (∀ b ∈ fp, H' b = none) ∧ W i m H') ?_ m0 ⟨0, H3, I4, st4, nofp, w0⟩
    rintro m s5 ⟨i, H5, I5, st5, n5, w5⟩
    rcases turns i m H5 w5 with ⟨stop, fin⟩ | ⟨go, Nx, hNx, step⟩
    · refine thnF (T.done (X.blk s3 H3 scope ce fp) rfl rfl rfl hc i [] s5 _ H5 (fun _ _ => False) I5 (still I5 n5) st5 stop) fun r s6 ⟨hr, I6⟩ => ?_
      subst hr
      have I7 : Inv X pins σ H5 s6 := I3.call' (ch := fp) I6.os I6.base I6.hok I6.bare fun b hb => ⟨(f3 b hb).1.2.2.2.1, (f3 b hb).1.2.1, (f3 b hb).1.2.2.2.2.1, (f3 b hb).1.2.2.2.2.2⟩
      have free : H5 s3.heap.objs.size = none := home ▸ (show H5 ce.locals = none from I6.free)
      obtain ⟨ml, hn, _⟩ := I6.loc
      have hn : s6.heap.Ns ce.locals ml := hn
      rw [home] at hn
      exact hend D s3.heap.objs.size s6 ml H5 I7 fin hn (I3.fpOk (Nat.le_refl s3.heap.objs.size) free)
    · refine thnF (T.item (X.blk s3 H3 scope ce fp) rfl rfl rfl hc i [] s5 _ H5 (fun _ _ => False) I5 (still I5 n5) st5 go) fun r s6 ⟨u, hr, h6⟩ => ?_
      subst hr
      refine thnF h6 fun _ s7 ⟨x, H7, I7, r7, y7, st7, n7⟩ => ?_
      have I7' := I7.pinned (still I7 n7) (T.obj _ _ st7)
      refine thnF (pg.run _ s7 _ H7 x u _ I7' r7 (step x H7 y7)) fun _ s8 ⟨σ8, H8, I8, same, q8⟩ => ?_
      have again : ∀ {s' : Shared} {H' : Hp}, Inv (X.blk s3 H3 scope ce fp) ([] ++ pinsAt fp s7.heap) σ8 H' s' → Nx H' → ∃ m', m' < m ∧ ∃ i H', Inv (X.blk s3 H3 scope ce fp) [] (wipe σ (own.map (·.2))) H' s' ∧ tn i s'.heap ∧ (∀ b ∈ fp, H' b = none) ∧ W i m' H' := fun {s' H'} I' nx => by
        obtain ⟨m', less, w'⟩ := hNx H' nx
        have pinned : ∀ b ∈ fp, ∀ o, s7.heap.get? b = some o → s'.heap.get? b = some o ∧ H' b = none := fun b hb o e =>
          let z := I'.pin (b, o) (List.mem_append_right _ (List.mem_append_right _ (mem_pinsAt hb e)))
          ⟨z.1, z.2.1⟩
        refine ⟨m', less, i + 1, H', (I'.unpinned (pins := [])).weak (by rw [← same, wipe_length]) (fun j v e => ?_), T.keep _ _ _ st7 fun b hb o e => (pinned b hb o e).1, fun b hb => ?_, w'⟩
        · rw [← same] at e
          exact (wipe_some e).1
        · obtain ⟨o, e, _⟩ := T.obj _ _ st7 b hb
          exact (pinned b hb o e).2
      refine thnF (pt.run _ s8 σ8 H8 _ I8 q8) fun b s9 ⟨H9, I9, q9⟩ => ?_
      cases b with
      | false =>
        rw [if_neg Bool.false_ne_true] at q9 ⊢
        exact again I9 q9
      | true =>
        rw [if_pos rfl] at q9 ⊢
        refine thnF (pk.run _ s9 σ8 H9 _ I9 q9) fun z1 s10 ⟨yk, H10, I10, r10, q10⟩ => ?_
        refine thnF (pv.run _ s10 σ8 H10 _ I10 q10) fun z2 s11 ⟨yv, H11, I11, r11, kvs, k, a, ek, hkey, hdict, fits, nx⟩ => ?_
        subst ek
        exact store_pair (X := X.blk s3 H3 scope ce fp) hu I11 hdict hkey fits r10 r11 fun s12 I12 => again I12 nx
  have start := codeAny_compStart_dict loop (T.self X.A 0 _ _ _ st4 loop)
  rw [← hce] at start
  exact start
/-- as a value -/
theorem pe_dcT {kx vx tg iter : Expr} {ifs : List Expr} {scope : Scope} {own : List (Str × Nat)} {pos : Pos} {wi : TI} {g : TG} {tt : TT} {tk tv : TE} (hu : X.A.units + 1 < cLine) (hc : X.calm = true) (hN : X.N.Nodup) (hi : PI X tg iter wi) (ok : BlkOk X.N X.env.scope scope own)
    (hg : ∀ (s : Shared) (H : Hp) (C : Addr) (cl : List (Str × Addr)) (fp : List Addr), PG (X.blk s H scope (compEnvC scope cl C X.env) fp) tg g)
    (ht : ∀ (s : Shared) (H : Hp) (C : Addr) (cl : List (Str × Addr)) (fp : List Addr), PTs (X.blk s H scope (compEnvC scope cl C X.env) fp) ifs tt)
    (hk : ∀ (s : Shared) (H : Hp) (C : Addr) (cl : List (Str × Addr)) (fp : List Addr), PE (X.blk s H scope (compEnvC scope cl C X.env) fp) kx tk)
    (hv : ∀ (s : Shared) (H : Hp) (C : Addr) (cl : List (Str × Addr)) (fp : List Addr), PE (X.blk s H scope (compEnvC scope cl C X.env) fp) vx tv) (hs : ∀ x, foldedSetIterable iter X.env x = pure x := by intro _; rfl) :
    PE X (.DictComp kx vx [⟨tg, iter, ifs, 0⟩] scope pos) (tDcT wi g tt tk tv (own.map (·.2))) := by
  refine ⟨fun pins s σ H Q I h => ?_⟩
  rw [arm_eval_DictComp]
  refine dcT_run hu hc hN I hi ok hg ht hk hv hs h fun D C s' m H' I' q ns fresh => ⟨m, ns, fun h'' sb => ?_⟩
  exact ⟨.ref D, H', I'.turned (t' := s'.toks) (fun b o hb e => (sb.2 b hb).trans e) fresh.1 fresh.2.1 fresh.2.2.2.1 fresh.2.2.2.2.1 fresh.2.2.2.2.2, rfl, q⟩
/-- name = {..} on one line, the name a local -/
theorem ps_setDcT {i : Nat} {y : Str} {py : Pos} {kx vx tg iter : Expr} {ifs : List Expr} {scope : Scope} {own : List (Str × Nat)} {pos spos : Pos} {wi : TI} {g : TG} {tt : TT} {tk tv : TE} (hu : X.A.units + 1 < cLine) (hc : X.calm = true) (hN : X.N.Nodup) (hy : X.N[i]? = some y) (hyl : X.env.scope.names.lookup y = some .local)
    (hsw : swapsWith (.DictComp kx vx [⟨tg, iter, ifs, 0⟩] scope pos) (some (.Name y py)) spos.line X.env = pure true) (hi : PI X tg iter wi) (ok : BlkOk X.N X.env.scope scope own)
    (hg : ∀ (s : Shared) (H : Hp) (C : Addr) (cl : List (Str × Addr)) (fp : List Addr), PG (X.blk s H scope (compEnvC scope cl C X.env) fp) tg g)
    (ht : ∀ (s : Shared) (H : Hp) (C : Addr) (cl : List (Str × Addr)) (fp : List Addr), PTs (X.blk s H scope (compEnvC scope cl C X.env) fp) ifs tt)
    (hk : ∀ (s : Shared) (H : Hp) (C : Addr) (cl : List (Str × Addr)) (fp : List Addr), PE (X.blk s H scope (compEnvC scope cl C X.env) fp) kx tk)
    (hv : ∀ (s : Shared) (H : Hp) (C : Addr) (cl : List (Str × Addr)) (fp : List Addr), PE (X.blk s H scope (compEnvC scope cl C X.env) fp) vx tv) (hs : ∀ x, foldedSetIterable iter X.env x = pure x := by intro _; rfl) :
    PS X (.Assign [.Name y py] (.DictComp kx vx [⟨tg, iter, ifs, 0⟩] scope pos) spos) (tAsg (tDcT wi g tt tk tv (own.map (·.2))) (gName i)) := by
  refine ⟨fun pins s σ H D I h => ?_⟩
  rw [exec_Assign_Name_used _ _ _ _ hsw]
  refine wpAny_bind (wpAny_standAt (wpAny_bind ?_))
  have h : tDcT wi g tt tk tv (own.map (·.2)) σ H (fun x H1 => gName i x σ H1 D.nx) := h
  show wpAny _ X.A (do let _ ← comprehension (.DictComp kx vx [⟨tg, iter, ifs, 0⟩] scope pos) scope X.env (firstIterPos [⟨tg, iter, ifs, 0⟩] pos) newDict false (eval iter X.env) (some (assign (.Name y py) X.env))) _ _ s
  refine wpAny_bind (thn (dcT_run (Qf := fun _ s' => SP X pins D .next s') hu hc hN I hi ok hg ht hk hv hs h fun L C s' m H' I' q ns fresh => ?_) fun _ s' hq => wpAny_pure (wpAny_pure hq))
  show wpAny _ _ (assign (.Name y py) X.env (.ref L)) _ _ _
  refine wpAny_assign_Name (store_ok2 (v := V.ref L) I' hN hy (.inl hyl) rfl (fun s2 I2 ⟨a, sb, ha⟩ => ?_) (.inr hyl))
  have apart : C ≠ a := ha.elim (fun z => z ▸ fresh.2.1) fun z e => fresh.2.2.2.2.1 y a z e.symm
  refine ⟨m, ns.sameBut sb apart, fun h3 sb3 => ⟨_, H', ?_, q⟩⟩
  exact I2.turned (t' := s2.toks) (fun b o hb e => (sb3.2 b hb).trans e) fresh.1 fresh.2.1 fresh.2.2.2.1 fresh.2.2.2.2.1 fresh.2.2.2.2.2
theorem sw_trueD {kx vx : Expr} {gs : List Comprehension} {scope : Scope} {pos py : Pos} {y : Str} {l : Nat} {env : Env} (hk : env.scope.kind = .function) (hy : env.scope.names.lookup y = some .local) (hl : (py.line == pos.line) = true)
    (ha : (scope.names.any fun (n, k) => n == y && (k == .local || k == .cell)) = false) : swapsWith (.DictComp kx vx gs scope pos) (some (.Name y py)) l env = pure true := by
  have e1 : env.kindOf y = some .local := hy
  have e2 : env.blockKind = .function := by unfold Env.blockKind; rw [hk]; rfl
  unfold swapsWith
  simp only [e2, e1, ha, Expr.pos, hl]
  rfl
/-- over any walk -/
theorem dc_it {J : It} {n : Nat} {G : Hp → Prop} {Y : Nat → Hp → V → Hp → Prop} (w : Walk J n G Y) {g : TG} {tt : TT} {tk tv : TE} {vs : List Nat} {σ : L2.St} {H1 : Hp} {D : Addr} {Qd : Hp → Prop} (Pv : Nat → Hp → Prop) (h0 : Pv 0 (upd H1 D (.dT [])))
    (hG : ∀ i H, i ≤ n → Pv i H → G H)
    (hs : ∀ i x H H', i < n → Pv i H → Y i H x H' → g x (wipe σ vs) H' fun σ2 H2 => wipe σ2 vs = wipe σ vs ∧ tt σ2 H2 fun b H3 =>
      if b = true then tk σ2 H3 fun y H4 => tv σ2 H4 fun z H5 => ∃ kvs k q, y = .ref q ∧ H5 q = some (.tup (k.map kV)) ∧ H5 D = some (.dT kvs) ∧ kvs.length < sizeLine ∧ Pv (i + 1) (upd H5 D (.dT (putK kvs k z))) else Pv (i + 1) H3)
    (hd : ∀ H, Pv n H → Qd H) :
    ∃ W : Nat → Nat → Hp → Prop, (∃ m, W 0 m (upd H1 D (.dT []))) ∧ ∀ i m H, W i m H →
      (J.stop i H ∧ Qd H) ∨ (J.go i H ∧ ∃ Nx : Hp → Prop, (∀ H', Nx H' → ∃ m', m' < m ∧ W (i + 1) m' H') ∧ ∀ x H', J.yld i H x H' → g x (wipe σ vs) H' fun σ2 H2 => wipe σ2 vs = wipe σ vs ∧ tt σ2 H2 fun b H3 =>
        if b = true then tk σ2 H3 fun y H4 => tv σ2 H4 fun z H5 => ∃ kvs k q, y = .ref q ∧ H5 q = some (.tup (k.map kV)) ∧ H5 D = some (.dT kvs) ∧ kvs.length < sizeLine ∧ Nx (upd H5 D (.dT (putK kvs k z))) else Nx H3) := by
  refine ⟨fun i m H => m = n - i ∧ i ≤ n ∧ Pv i H, ⟨n, (Nat.sub_zero n).symm, Nat.zero_le _, h0⟩, fun i m H ⟨em, hi, p⟩ => ?_⟩
  subst em
  rcases Nat.lt_or_ge i n with lt | ge
  · exact .inr ⟨w.goes i H lt (hG i H hi p), Pv (i + 1), fun H' p' => ⟨n - (i + 1), by omega, rfl, lt, p'⟩, fun x H' y => hs i x H H' lt p (w.yields i H x H' lt (hG i H hi p) y)⟩
  · obtain rfl : i = n := Nat.le_antisymm hi ge
    exact .inl ⟨w.stops H (hG i H hi p), hd H p⟩
end
end HW
end
section
/-! HWMix: a dict whose keys are texts and tuples beside each other: found, asked, stored; at the level of the machine. -/
namespace HW
open PySem PySem.Spec PyProof.Rows L2

/-- key, the key's value, the value there -/
abbrev Row3 := NestedKey × Value × Value
def entOf (w : World) (x : Row3) : DictEntry := ⟨x.1.hash w, x.2.1, x.2.2⟩
structure MixEnts (w : World) (h : Heap) (xs : List Row3) (es : Array DictEntry) : Prop where
  ents : es.toList = xs.map (entOf w)
  keys : ∀ x ∈ xs, NestedIs h x.1 x.2.1 ∧ x.1.depth ≤ 8
  nd : (xs.map fun x => x.1).Nodup
section
variable {prog : Program} {w : World} {A : Around} {E : Value → Shared → Prop} {s : Shared}
theorem MixEnts.size {h : Heap} {xs : List Row3} {es : Array DictEntry} (m : MixEnts w h xs es) : es.size = xs.length := by
  rw [← Array.length_toList, m.ents, List.length_map]
theorem MixEnts.get {h : Heap} {xs : List Row3} {es : Array DictEntry} (m : MixEnts w h xs es) (j : Nat) : es[j]? = xs[j]?.map (entOf w) := by
  rw [← Array.getElem?_toList, m.ents, List.getElem?_map]
theorem MixEnts.mem {h : Heap} {xs : List Row3} {es : Array DictEntry} (m : MixEnts w h xs es) {e : DictEntry} (he : e ∈ es) : ∃ x ∈ xs, e = entOf w x := by
  have : e ∈ xs.map (entOf w) := m.ents ▸ Array.mem_toList_iff.mpr he
  obtain ⟨x, hx, rfl⟩ := List.mem_map.mp this
  exact ⟨x, hx, rfl⟩
/-- at j stands the key k -/
def KeyAt (xs : List Row3) (k : NestedKey) (j : Nat) : Prop := ∃ p : Value × Value, xs[j]? = some (k, p)
theorem keyAt_one {xs : List Row3} (nd : (xs.map fun x => x.1).Nodup) {k : NestedKey} {i j : Nat} (a : KeyAt xs k i) (b : KeyAt xs k j) : i = j := by
  obtain ⟨p, hp⟩ := a
  obtain ⟨q, hq⟩ := b
  have h1 : (xs.map fun x => x.1)[i]? = some k := by rw [List.getElem?_map, hp]; rfl
  have h2 : (xs.map fun x => x.1)[j]? = some k := by rw [List.getElem?_map, hq]; rfl
  exact nd_ix nd h1 h2
theorem depth_same : ∀ (k : NestedKey), k.depth ≤ 8 → ∀ (k' : NestedKey), min k'.depth k.depth ≤ 8 := fun k h k' => by omega
theorem mix_find {d : Addr} {o : Obj} {es : Array DictEntry} {ep : Nat} {xs : List Row3} {k : NestedKey} {u : Value} {Q : Option Nat → Shared → Prop} (room : A.units + 9 < cLine) (hk : NestedIs s.heap k u) (hd8 : k.depth ≤ 8) (hu2 : (∃ x t, u = .str x t) ∨ ∃ a, u = .ref a)
    (ho : s.heap.get? d = some o) (hd : o.data = .dict es ep) (m : MixEnts w s.heap xs es) (none_ : (∀ j, ¬ KeyAt xs k j) → Q none s) (some_ : ∀ j, KeyAt xs k j → Q (some j) s) :
    wpAny (model prog w) A (dictFind d u (k.hash w)) Q E s := by
  have sz := m.size
  -- the places with this hash
  have inPlaces : ∀ j, KeyAt xs k j → j ∈ placesWithHash es.size (fun i => es[i]?.map (·.hash)) (k.hash w) := fun j ⟨p, hp⟩ => by
    rw [placesWithHash, List.mem_filter]
    have lt : j < xs.length := (List.getElem?_eq_some_iff.mp hp).1
    refine ⟨List.mem_range.mpr (by omega), ?_⟩
    rw [m.get, hp]
    simp [entOf]
  have atPlace : ∀ j, j ∈ placesWithHash es.size (fun i => es[i]?.map (·.hash)) (k.hash w) → ∃ x, xs[j]? = some x ∧ es[j]? = some (entOf w x) ∧ x.1.hash w = k.hash w := fun j hj => by
    rw [placesWithHash, List.mem_filter] at hj
    have lt : j < xs.length := by have := List.mem_range.mp hj.1; omega
    have hx : xs[j]? = some xs[j] := List.getElem?_eq_getElem lt
    have e := m.get j
    rw [hx] at e
    refine ⟨xs[j], hx, e, ?_⟩
    have := hj.2
    rw [e] at this
    simpa [entOf] using this
  have ndPlaces : (placesWithHash es.size (fun i => es[i]?.map (·.hash)) (k.hash w)).Nodup := by
    rw [placesWithHash]
    exact List.Pairwise.filter _ List.nodup_range
  have eqAt : ∀ x ∈ xs, SeqAt.EqAt A s x.2.1 u (NestedKey.beq x.1 k) := fun x hx => by
    obtain ⟨h1, h2⟩ := m.keys x hx
    exact eqAt_key x.1 k A s _ _ h1 hk (by omega)
  generalize hpl : placesWithHash es.size (fun i => es[i]?.map (·.hash)) (k.hash w) = places at inPlaces atPlace ndPlaces
  have hitNone : ∀ (rest : List Nat), (∀ j, KeyAt xs k j → j ∈ rest) → rest = [] → Q none s := fun rest h e => none_ fun j hj => by
    have := h j hj
    rw [e] at this
    cases this
  have step : ∀ (x : Nat) (rest : List Nat), (x :: rest).Nodup → (∀ y ∈ x :: rest, y ∈ places) → ∀ e, xs[x]? = some e → ¬ e.1 = k → (∀ j, KeyAt xs k j → j ∈ x :: rest) → ∀ j, KeyAt xs k j → j ∈ rest := fun x rest nd sub e he ne all j hj => by
    rcases List.mem_cons.mp (all j hj) with rfl | h
    · obtain ⟨p, hp⟩ := hj
      rw [he] at hp
      exact absurd (congrArg Prod.fst (Option.some.inj hp)) ne
    · exact h
  -- by value: one after the other
  have plain : wpAny (model prog w) A (dictWalkPlain d u (k.hash w) es places) Q E s := by
    refine wpAny_bind ?_
    refine wpAny_forIn_list _ (fun rest b s' => s' = s ∧ b = (none, ()) ∧ rest.Nodup ∧ (∀ y ∈ rest, y ∈ places) ∧ ∀ j, KeyAt xs k j → j ∈ rest) _ ?_ ?_ _ _ ⟨rfl, rfl, ndPlaces, fun _ h => h, inPlaces⟩
    · rintro x rest b s' ⟨rfl, rfl, nd, sub, all⟩
      obtain ⟨e, he, hes, hh⟩ := atPlace x (sub x (by simp))
      rw [hes]
      dsimp only
      rw [if_pos (show ((entOf w e).hash == k.hash w) = true by simp [entOf, hh])]
      refine wpAny_bind (wpAny_dictEpoch ho hd (wpAny_bind (eqAt e (List.mem_of_getElem? he) prog w E _ (wpAny_bind (wpAny_dictEpoch ho hd ?_)))))
      show wpAny _ _ (if (ep != ep) = true then _ else _) _ E _
      rw [if_neg (by simp)]
      by_cases hkk : e.1 = k
      · rw [← NestedKey.decide_eq, decide_eq_true hkk]
        exact wpAny_bind (wpAny_rule (wpAny_pure (wpAny_pure (some_ x ⟨e.2, by rw [he, ← hkk]⟩))))
      · rw [← NestedKey.decide_eq, decide_eq_false hkk]
        exact wpAny_bind (wpAny_rule (wpAny_pure ⟨rfl, rfl, (List.nodup_cons.mp nd).2, fun y hy => sub y (by simp [hy]), step x rest nd sub e he hkk all⟩))
    · rintro b s' ⟨rfl, rfl, _, _, all⟩
      exact wpAny_pure (hitNone [] all rfl)
  have general : (∀ x, u = .ref x → ¬ (es.any fun e => e.key == u && e.hash != k.hash w) = true) := fun x hx => by
    rw [← Array.any_toList, List.any_eq_true]
    rintro ⟨e, hin, hc⟩
    obtain ⟨y, hy, rfl⟩ := m.mem (Array.mem_toList_iff.mp hin)
    simp only [entOf, Bool.and_eq_true, beq_iff_eq, bne_iff_ne, ne_eq] at hc
    have := (m.keys y hy).1
    have e1 : y.2.1 = u := by
      have h1 := hc.1
      rw [hx] at h1 ⊢
      cases q : y.2.1 with
      | ref b => rw [q] at h1; simp at h1; rw [h1]
      | _ => rw [q] at h1; simp at h1
    rw [e1] at this
    exact hc.2 (by rw [NestedIs.inj _ _ _ this hk])
  have stored : ∀ v ∈ places.filterMap (fun i => es[i]?.map (·.key)), QuietAt prog w 8 s v := fun v hv => by
    obtain ⟨i, hi, e⟩ := List.mem_filterMap.mp hv
    obtain ⟨x, hx, hes, _⟩ := atPlace i hi
    rw [hes] at e
    cases e
    obtain ⟨h1, h2⟩ := m.keys x (List.mem_of_getElem? hx)
    exact quiet_key x.1 _ 8 s h1 h2
  have tells : ∀ {Q' : Bool → Shared → Prop}, Q' false s → wpAny (model prog w) A (tableMayTell u (places.filterMap fun i => es[i]?.map (·.key))) Q' E s := fun {Q'} hq => by
    unfold tableMayTell
    split
    · exact wpAny_pure hq
    · refine wpAny_bind (quiet_key k u 8 s hk hd8 A E _ ?_)
      simp only [Bool.not_true, Bool.false_eq_true, if_false]
      refine wpAny_bind ?_
      refine wpAny_forIn_list _ (fun rest r s' => s' = s ∧ r = (none, ()) ∧ ∀ v ∈ rest, QuietAt prog w 8 s v) _ ?_ ?_ _ _ ⟨rfl, rfl, stored⟩
      · rintro x rest r s' ⟨rfl, rfl, hr⟩
        refine wpAny_bind (hr x List.mem_cons_self A E _ ?_)
        simp only [Bool.not_true, Bool.false_eq_true, if_false]
        exact wpAny_pure ⟨rfl, rfl, fun v hv => hr v (List.mem_cons_of_mem _ hv)⟩
      · rintro r s' ⟨rfl, rfl, _⟩
        exact wpAny_pure hq
  rcases hu2 with ⟨x, t, rfl⟩ | ⟨a, rfl⟩
  · by_cases exact_ : (es.all fun e => isExactStrKey e.key) = true
    · refine KTD.kt_dictFind_strs ho hd exact_ ?_
      cases hk
      have keyIs : ∀ j, KeyAt xs (.text x) j ↔ ∃ e, es[j]? = some e ∧ e.key.isStr x = true := fun j => by
        constructor
        · rintro ⟨p, hp⟩
          have hin := (m.keys _ (List.mem_of_getElem? hp)).1
          have e := m.get j
          rw [hp] at e
          refine ⟨_, e, ?_⟩
          obtain ⟨kv, v⟩ := p
          have hin : NestedIs s.heap (.text x) kv := hin
          show kv.isStr x = true
          cases hin
          simp [Value.isStr]
        · rintro ⟨e, he, hs⟩
          have g := m.get j
          rw [he] at g
          obtain ⟨y, hy, rfl⟩ := Option.map_eq_some_iff.mp g.symm
          have hin := (m.keys y (List.mem_of_getElem? hy)).1
          obtain ⟨t', ht'⟩ := KTD.kt_isStr hs
          have ht' : y.2.1 = .str x t' := ht'
          rw [ht'] at hin
          obtain ⟨ky, p⟩ := y
          have hin : NestedIs s.heap ky (.str x t') := hin
          cases hin
          exact ⟨p, hy⟩
      cases hf : es.findIdx? fun e => e.key.isStr x with
      | none =>
        refine none_ fun j hj => ?_
        obtain ⟨e, he, hs⟩ := (keyIs j).mp hj
        have := Array.findIdx?_eq_none_iff.mp hf e (Array.mem_of_getElem? he)
        rw [hs] at this
        cases this
      | some i =>
        obtain ⟨lt, hi, _⟩ := Array.findIdx?_eq_some_iff_getElem.mp hf
        exact some_ i ((keyIs i).mpr ⟨_, Array.getElem?_eq_getElem lt, hi⟩)
    · unfold dictFind
      try with_reducible refine wpAny_holding ?_
      refine wpAny_bind (wpAny_dictEntries ho hd ?_)
      dsimp only
      rw [hpl, if_neg exact_]
      by_cases hv : ((Value.str x t :: places.filterMap fun i => es[i]?.map (·.key)).all carriedByValue) = true
      · rw [if_pos hv]
        exact plain
      · rw [if_neg hv]
        by_cases hone : ((places.filterMap fun i => es[i]?.map (·.key)) == [Value.str x t]) = true
        · rw [if_pos hone]
          refine wpAny_bind (wpAny_pure ?_)
          rw [if_neg (by simp)]
          refine wpAny_bind ?_
          refine wpAny_forIn_list _ (fun rest b s' => s' = s ∧ rest.Nodup ∧ (∀ y ∈ rest, y ∈ places) ∧ ∃ hit, b = (none, hit) ∧ ((hit = none ∧ ∀ j, KeyAt xs k j → j ∈ rest) ∨ ∃ j, hit = some j ∧ KeyAt xs k j ∧ ¬ j ∈ rest)) _ ?_ ?_ _ _ ⟨rfl, ndPlaces, fun _ h => h, none, rfl, .inl ⟨rfl, inPlaces⟩⟩
          · rintro x rest b s' ⟨rfl, nd, sub, hit, rfl, hH⟩
            obtain ⟨e, he, hes, hh⟩ := atPlace x (sub x (by simp))
            obtain ⟨n1, n2⟩ := List.nodup_cons.mp nd
            have sub' : ∀ y ∈ rest, y ∈ places := fun y hy => sub y (by simp [hy])
            rw [hes]
            dsimp only
            rw [if_pos (show ((entOf w e).hash == k.hash w) = true by simp [entOf, hh])]
            refine wpAny_bind (wpAny_dictEpoch ho hd (wpAny_bind (eqAt e (List.mem_of_getElem? he) prog w E _ (wpAny_bind (wpAny_dictEpoch ho hd ?_)))))
            show wpAny _ _ (if (ep != ep) = true then _ else _) _ E _
            rw [if_neg (by simp)]
            by_cases hkk : e.1 = k
            · rw [← NestedKey.decide_eq, decide_eq_true hkk]
              have here : KeyAt xs k x := ⟨e.2, by rw [he, ← hkk]⟩
              rcases hH with ⟨rfl, all⟩ | ⟨j, rfl, hj, nj⟩
              · simp only [Option.isSome_none, Bool.false_eq_true, if_false, if_true]
                refine wpAny_bind (wpAny_rule ?_)
                split
                · exact wpAny_pure (wpAny_pure (some_ x here))
                · exact wpAny_pure ⟨rfl, n2, sub', some x, rfl, .inr ⟨x, rfl, here, n1⟩⟩
              · exact absurd (by rw [keyAt_one m.nd hj here]; simp) nj
            · rw [← NestedKey.decide_eq, decide_eq_false hkk]
              simp only [Bool.false_eq_true, if_false, Bool.false_and]
              refine wpAny_bind (wpAny_rule (wpAny_pure ⟨rfl, n2, sub', hit, rfl, ?_⟩))
              rcases hH with ⟨e1, all⟩ | ⟨j, e1, hj, nj⟩
              · exact .inl ⟨e1, step x rest nd sub e he hkk all⟩
              · exact .inr ⟨j, e1, hj, fun z => nj (List.mem_cons_of_mem _ z)⟩
          · rintro b s' ⟨rfl, _, _, hit, rfl, hH⟩
            rcases hH with ⟨rfl, all⟩ | ⟨j, rfl, hj, _⟩
            · exact wpAny_pure (hitNone [] all rfl)
            · exact wpAny_pure (some_ j hj)
        · rw [if_neg hone]
          refine wpAny_bind (tells ?_)
          rw [if_neg (by simp)]
          refine wpAny_bind ?_
          refine wpAny_forIn_list _ (fun rest b s' => s' = s ∧ rest.Nodup ∧ (∀ y ∈ rest, y ∈ places) ∧ ∃ hit, b = (none, hit) ∧ ((hit = none ∧ ∀ j, KeyAt xs k j → j ∈ rest) ∨ ∃ j, hit = some j ∧ KeyAt xs k j ∧ ¬ j ∈ rest)) _ ?_ ?_ _ _ ⟨rfl, ndPlaces, fun _ h => h, none, rfl, .inl ⟨rfl, inPlaces⟩⟩
          · rintro x rest b s' ⟨rfl, nd, sub, hit, rfl, hH⟩
            obtain ⟨e, he, hes, hh⟩ := atPlace x (sub x (by simp))
            obtain ⟨n1, n2⟩ := List.nodup_cons.mp nd
            have sub' : ∀ y ∈ rest, y ∈ places := fun y hy => sub y (by simp [hy])
            rw [hes]
            dsimp only
            rw [if_pos (show ((entOf w e).hash == k.hash w) = true by simp [entOf, hh])]
            refine wpAny_bind (wpAny_dictEpoch ho hd (wpAny_bind (eqAt e (List.mem_of_getElem? he) prog w E _ (wpAny_bind (wpAny_dictEpoch ho hd ?_)))))
            show wpAny _ _ (if (ep != ep) = true then _ else _) _ E _
            rw [if_neg (by simp)]
            by_cases hkk : e.1 = k
            · rw [← NestedKey.decide_eq, decide_eq_true hkk]
              have here : KeyAt xs k x := ⟨e.2, by rw [he, ← hkk]⟩
              rcases hH with ⟨rfl, all⟩ | ⟨j, rfl, hj, nj⟩
              · simp only [Option.isSome_none, Bool.false_eq_true, if_false, if_true]
                refine wpAny_bind (wpAny_rule ?_)
                split
                · exact wpAny_pure (wpAny_pure (some_ x here))
                · exact wpAny_pure ⟨rfl, n2, sub', some x, rfl, .inr ⟨x, rfl, here, n1⟩⟩
              · exact absurd (by rw [keyAt_one m.nd hj here]; simp) nj
            · rw [← NestedKey.decide_eq, decide_eq_false hkk]
              simp only [Bool.false_eq_true, if_false, Bool.false_and]
              refine wpAny_bind (wpAny_rule (wpAny_pure ⟨rfl, n2, sub', hit, rfl, ?_⟩))
              rcases hH with ⟨e1, all⟩ | ⟨j, e1, hj, nj⟩
              · exact .inl ⟨e1, step x rest nd sub e he hkk all⟩
              · exact .inr ⟨j, e1, hj, fun z => nj (List.mem_cons_of_mem _ z)⟩
          · rintro b s' ⟨rfl, _, _, hit, rfl, hH⟩
            rcases hH with ⟨rfl, all⟩ | ⟨j, rfl, hj, _⟩
            · exact wpAny_pure (hitNone [] all rfl)
            · exact wpAny_pure (some_ j hj)
  · unfold dictFind
    try with_reducible refine wpAny_holding ?_
    refine wpAny_bind (wpAny_dictEntries ho hd ?_)
    dsimp only
    rw [hpl]
    rw [if_neg (show ¬ ((Value.ref a :: places.filterMap fun i => es[i]?.map (·.key)).all carriedByValue) = true by simp [carriedByValue])]
    rw [if_neg (general a rfl)]
    by_cases hone : ((places.filterMap fun i => es[i]?.map (·.key)) == [Value.ref a]) = true
    · rw [if_pos hone]
      refine wpAny_bind (wpAny_pure ?_)
      rw [if_neg (by simp)]
      refine wpAny_bind ?_
      refine wpAny_forIn_list _ (fun rest b s' => s' = s ∧ rest.Nodup ∧ (∀ y ∈ rest, y ∈ places) ∧ ∃ hit, b = (none, hit) ∧ ((hit = none ∧ ∀ j, KeyAt xs k j → j ∈ rest) ∨ ∃ j, hit = some j ∧ KeyAt xs k j ∧ ¬ j ∈ rest)) _ ?_ ?_ _ _ ⟨rfl, ndPlaces, fun _ h => h, none, rfl, .inl ⟨rfl, inPlaces⟩⟩
      · rintro x rest b s' ⟨rfl, nd, sub, hit, rfl, hH⟩
        obtain ⟨e, he, hes, hh⟩ := atPlace x (sub x (by simp))
        obtain ⟨n1, n2⟩ := List.nodup_cons.mp nd
        have sub' : ∀ y ∈ rest, y ∈ places := fun y hy => sub y (by simp [hy])
        rw [hes]
        dsimp only
        rw [if_pos (show ((entOf w e).hash == k.hash w) = true by simp [entOf, hh])]
        refine wpAny_bind (wpAny_dictEpoch ho hd (wpAny_bind (eqAt e (List.mem_of_getElem? he) prog w E _ (wpAny_bind (wpAny_dictEpoch ho hd ?_)))))
        show wpAny _ _ (if (ep != ep) = true then _ else _) _ E _
        rw [if_neg (by simp)]
        by_cases hkk : e.1 = k
        · rw [← NestedKey.decide_eq, decide_eq_true hkk]
          have here : KeyAt xs k x := ⟨e.2, by rw [he, ← hkk]⟩
          rcases hH with ⟨rfl, all⟩ | ⟨j, rfl, hj, nj⟩
          · simp only [Option.isSome_none, Bool.false_eq_true, if_false, if_true]
            refine wpAny_bind (wpAny_rule ?_)
            split
            · exact wpAny_pure (wpAny_pure (some_ x here))
            · exact wpAny_pure ⟨rfl, n2, sub', some x, rfl, .inr ⟨x, rfl, here, n1⟩⟩
          · exact absurd (by rw [keyAt_one m.nd hj here]; simp) nj
        · rw [← NestedKey.decide_eq, decide_eq_false hkk]
          simp only [Bool.false_eq_true, if_false, Bool.false_and]
          refine wpAny_bind (wpAny_rule (wpAny_pure ⟨rfl, n2, sub', hit, rfl, ?_⟩))
          rcases hH with ⟨e1, all⟩ | ⟨j, e1, hj, nj⟩
          · exact .inl ⟨e1, step x rest nd sub e he hkk all⟩
          · exact .inr ⟨j, e1, hj, fun z => nj (List.mem_cons_of_mem _ z)⟩
      · rintro b s' ⟨rfl, _, _, hit, rfl, hH⟩
        rcases hH with ⟨rfl, all⟩ | ⟨j, rfl, hj, _⟩
        · exact wpAny_pure (hitNone [] all rfl)
        · exact wpAny_pure (some_ j hj)
    · rw [if_neg hone]
      refine wpAny_bind (tells ?_)
      rw [if_neg (by simp)]
      refine wpAny_bind ?_
      refine wpAny_forIn_list _ (fun rest b s' => s' = s ∧ rest.Nodup ∧ (∀ y ∈ rest, y ∈ places) ∧ ∃ hit, b = (none, hit) ∧ ((hit = none ∧ ∀ j, KeyAt xs k j → j ∈ rest) ∨ ∃ j, hit = some j ∧ KeyAt xs k j ∧ ¬ j ∈ rest)) _ ?_ ?_ _ _ ⟨rfl, ndPlaces, fun _ h => h, none, rfl, .inl ⟨rfl, inPlaces⟩⟩
      · rintro x rest b s' ⟨rfl, nd, sub, hit, rfl, hH⟩
        obtain ⟨e, he, hes, hh⟩ := atPlace x (sub x (by simp))
        obtain ⟨n1, n2⟩ := List.nodup_cons.mp nd
        have sub' : ∀ y ∈ rest, y ∈ places := fun y hy => sub y (by simp [hy])
        rw [hes]
        dsimp only
        rw [if_pos (show ((entOf w e).hash == k.hash w) = true by simp [entOf, hh])]
        refine wpAny_bind (wpAny_dictEpoch ho hd (wpAny_bind (eqAt e (List.mem_of_getElem? he) prog w E _ (wpAny_bind (wpAny_dictEpoch ho hd ?_)))))
        show wpAny _ _ (if (ep != ep) = true then _ else _) _ E _
        rw [if_neg (by simp)]
        by_cases hkk : e.1 = k
        · rw [← NestedKey.decide_eq, decide_eq_true hkk]
          have here : KeyAt xs k x := ⟨e.2, by rw [he, ← hkk]⟩
          rcases hH with ⟨rfl, all⟩ | ⟨j, rfl, hj, nj⟩
          · simp only [Option.isSome_none, Bool.false_eq_true, if_false, if_true]
            refine wpAny_bind (wpAny_rule ?_)
            split
            · exact wpAny_pure (wpAny_pure (some_ x here))
            · exact wpAny_pure ⟨rfl, n2, sub', some x, rfl, .inr ⟨x, rfl, here, n1⟩⟩
          · exact absurd (by rw [keyAt_one m.nd hj here]; simp) nj
        · rw [← NestedKey.decide_eq, decide_eq_false hkk]
          simp only [Bool.false_eq_true, if_false, Bool.false_and]
          refine wpAny_bind (wpAny_rule (wpAny_pure ⟨rfl, n2, sub', hit, rfl, ?_⟩))
          rcases hH with ⟨e1, all⟩ | ⟨j, e1, hj, nj⟩
          · exact .inl ⟨e1, step x rest nd sub e he hkk all⟩
          · exact .inr ⟨j, e1, hj, fun z => nj (List.mem_cons_of_mem _ z)⟩
      · rintro b s' ⟨rfl, _, _, hit, rfl, hH⟩
        rcases hH with ⟨rfl, all⟩ | ⟨j, rfl, hj, _⟩
        · exact wpAny_pure (hitNone [] all rfl)
        · exact wpAny_pure (some_ j hj)
end
end HW
end
section
/-! HWMix2: such a dict in the abstract heap; the rules for its display, for in, not in, d[k], d[k] = v. -/
namespace HW
open PySem PySem.Spec PyProof.Rows L2

section
variable {prog : Program} {w : World} {A : Around} {E : Value → Shared → Prop} {s : Shared}
structure MixIs (w : World) (h : Heap) (d : Addr) (xs : List Row3) : Prop where
  notm : (d == sysModules) = false
  at_ : ∃ o es ep, h.get? d = some o ∧ o.ExactDict ∧ o.data = .dict es ep ∧ MixEnts w h xs es
def mixAt (xs : List Row3) (k : NestedKey) : Option Value := (xs.find? fun x => decide (x.1 = k)).map fun x => x.2.2
theorem mixAt_some {xs : List Row3} (nd : (xs.map fun x => x.1).Nodup) {k : NestedKey} {j : Nat} {p : Value × Value} (h : xs[j]? = some (k, p)) : mixAt xs k = some p.2 := by
  unfold mixAt
  cases q : xs.find? fun x => decide (x.1 = k) with
  | none =>
    have := List.find?_eq_none.mp q _ (List.mem_of_getElem? h)
    simp at this
  | some y =>
    have hy := List.mem_of_find?_eq_some q
    have hk : y.1 = k := by simpa using List.find?_some q
    obtain ⟨i, hi⟩ := List.mem_iff_getElem?.mp hy
    have : i = j := keyAt_one nd ⟨y.2, by rw [hi, ← hk]⟩ ⟨p, h⟩
    subst this
    rw [hi] at h
    cases h
    rfl
theorem mixAt_none {xs : List Row3} {k : NestedKey} (h : ∀ j, ¬ KeyAt xs k j) : mixAt xs k = none := by
  unfold mixAt
  cases q : xs.find? fun x => decide (x.1 = k) with
  | none => rfl
  | some y =>
    have hy := List.mem_of_find?_eq_some q
    have hk : y.1 = k := by simpa using List.find?_some q
    obtain ⟨i, hi⟩ := List.mem_iff_getElem?.mp hy
    exact absurd ⟨y.2, by rw [hi, ← hk]⟩ (h i)
theorem MixIs.typeIs {d : Addr} {xs : List Row3} (m : MixIs w s.heap d xs) : s.TypeIs (.ref d) "dict" := let ⟨o, _, _, ho, hc, _⟩ := m.at_; ⟨o, ho, hc.1⟩
theorem mix_get {d : Addr} {xs : List Row3} {k : NestedKey} {u : Value} {Q : Option Value → Shared → Prop} (room : A.units + 9 < cLine) (hk : NestedIs s.heap k u) (hd8 : k.depth ≤ 8) (hu2 : (∃ x t, u = .str x t) ∨ ∃ a, u = .ref a) (m : MixIs w s.heap d xs)
    (h : Q (mixAt xs k) { s with toks := s.toks + k.draws }) : wpAny (model prog w) A (dictGet d u) Q E s := by
  obtain ⟨o, es, ep, ho, _, hd, me⟩ := m.at_
  unfold dictGet
  try with_reducible refine wpAny_holding ?_
  refine wpAny_bind (pyHash_key k u A s _ hk (by omega) (wpAny_bind (mix_find (s := { s with toks := s.toks + k.draws }) room hk hd8 hu2 ho hd me (fun no => ?_) fun j hj => ?_)))
  · rw [mixAt_none no] at h
    exact wpAny_pure h
  · obtain ⟨p, hp⟩ := hj
    rw [mixAt_some me.nd hp] at h
    refine wpAny_bind (wpAny_dictEntries (s := { s with toks := s.toks + k.draws }) ho hd ?_)
    rw [me.get, hp]
    exact wpAny_pure h
theorem mix_contains {d : Addr} {xs : List Row3} {k : NestedKey} {u : Value} {Q : Bool → Shared → Prop} (room : A.units + 10 < cLine) (hk : NestedIs s.heap k u) (hd8 : k.depth ≤ 8) (hu2 : (∃ x t, u = .str x t) ∨ ∃ a, u = .ref a) (m : MixIs w s.heap d xs)
    (h : Q (mixAt xs k).isSome { s with toks := s.toks + k.draws }) : wpAny (model prog w) A (contains (.ref d) u) Q E s := by
  refine wpAny_contains_slot m.typeIs F.slot_dict_contains ?_
  refine call_meetsIn F.slot_dict_contains m.typeIs F.entry_dict_contains (F.args_dict_contains_2 _ _) (S := fun A' R s' => A' = A ∧ s' = s ∧ R (.ok (.ret (.bool (mixAt xs k).isSome))) { s with toks := s.toks + k.draws }) (fun A' R s' hS => ?_) ⟨rfl, rfl, wpAny_truthy_bool h⟩
  obtain ⟨rfl, rfl, hq⟩ := hS
  show wpAny _ _ (dictGet d u >>= _) _ _ _
  refine wpAny_bind (mix_get (A := A'.in1) (by show A'.units + 1 + 9 < cLine; omega) hk hd8 hu2 m ?_)
  cases hf : mixAt xs k with
  | some p =>
    rw [hf] at hq
    show wpAny _ _ (ret (.bool true)) _ _ _
    exact wpAny_pure hq
  | none =>
    rw [hf] at hq
    show wpAny _ _ (Builtin.Dict.pendingKey? d u >>= _) _ _ _
    exact wpAny_bind (wpAny_pendingKey_other m.notm (wpAny_pure hq))
theorem mix_getItem {d : Addr} {xs : List Row3} {k : NestedKey} {u v : Value} {Q : Value → Shared → Prop} (room : A.units + 10 < cLine) (hk : NestedIs s.heap k u) (hd8 : k.depth ≤ 8) (hu2 : (∃ x t, u = .str x t) ∨ ∃ a, u = .ref a) (m : MixIs w s.heap d xs)
    (hv : mixAt xs k = some v) (h : Q v { s with toks := s.toks + k.draws }) : wpAny (model prog w) A (getItem (.ref d) u) Q E s := by
  unfold getItem
  try with_reducible refine wpAny_holding ?_
  refine wpAny_bind (wpAny_sequenceKey m.typeIs (by decide) ?_)
  refine wpAny_bind (wpAny_callSpecial?_slot (name := Str.ofString "__getitem__") m.typeIs F.slot_dict_getitem (wpAny_call_entry F.slot_dict_getitem m.typeIs F.entry_dict_getitem ?_ (F.args_dict_getitem_2 _ _)))
  show wpAny _ _ (dictGet d u >>= _) _ _ s
  refine wpAny_bind (mix_get (by show A.units + 1 + 9 < cLine; omega) hk hd8 hu2 m ?_)
  rw [hv]
  exact wpAny_pure ⟨v, rfl, wpAny_pure h⟩
/-- a new key -/
theorem mix_set {d : Addr} {xs : List Row3} {k : NestedKey} {u v : Value} {Q : Unit → Shared → Prop} (room : A.units + 9 < cLine) (hk : NestedIs s.heap k u) (hd8 : k.depth ≤ 8) (hu2 : (∃ x t, u = .str x t) ∨ ∃ a, u = .ref a) (m : MixIs w s.heap d xs)
    (no : ∀ j, ¬ KeyAt xs k j) (fits : xs.length ≤ sizeLine) (h : ∀ h', MixIs w h' d (xs ++ [(k, u, v)]) → Heap.SameBut d s.heap h' → Q () { s with heap := h', toks := s.toks + k.draws }) : wpAny (model prog w) A (dictSet d u v) Q E s := by
  obtain ⟨o, es, ep, ho, hc, hd, me⟩ := m.at_
  unfold dictSet
  try with_reducible refine wpAny_holding ?_
  refine wpAny_bind (pyHash_key k u A s _ hk (by omega) ?_)
  unfold dictSetHashed
  try with_reducible refine wpAny_holding ?_
  refine wpAny_bind (mix_find (s := { s with toks := s.toks + k.draws }) room hk hd8 hu2 ho hd me (fun _ => ?_) fun j hj => absurd hj (no j))
  have sz := me.size
  have other : Heap.SameBut d s.heap (s.heap.update d (Obj.mapDictKeys (·.push ⟨k.hash w, u, v⟩))) := Heap.SameBut.update ..
  have stays : ∀ (b : Addr) (ob : Obj) (vs : Array Value) (n : Nat), s.heap.get? b = some ob → ob.data = .seq vs n → (s.heap.update d (Obj.mapDictKeys (·.push ⟨k.hash w, u, v⟩))).get? b = some ob := fun b ob vs n hb hs => by
    refine (other.2 b fun e => ?_).trans hb
    rw [e, ho] at hb
    cases hb
    rw [hd] at hs
    cases hs
  refine wpAny_bind (wpAny_rule (wpAny_updateDictKeys (hz := by omega) (s := { s with toks := s.toks + k.draws }) ho hd (h _ ⟨m.notm, _, _, ep + 1, Heap.get?_update_self _ ho (Obj.isFreed_of_dict (Obj.data_mapDictKeys hd _)), hc.mapDictKeys _, Obj.data_mapDictKeys hd _, ?_, fun x hx => ?_, ?_⟩ other)))
  · simp [me.ents, entOf]
  · rcases List.mem_append.mp hx with hx | hx
    · obtain ⟨h1, h2⟩ := me.keys x hx
      exact ⟨NestedIs.at stays _ _ h1, h2⟩
    · rw [List.mem_singleton.mp hx]
      exact ⟨NestedIs.at stays _ _ hk, hd8⟩
  · rw [List.map_append]
    refine nd_snoc me.nd fun z => ?_
    obtain ⟨x, hx, e⟩ := List.mem_map.mp z
    obtain ⟨j, hj⟩ := List.mem_iff_getElem?.mp hx
    have e : x.1 = k := e
    exact no j ⟨x.2, by rw [hj, ← e]⟩
theorem mix_setItem {d : Addr} {xs : List Row3} {k : NestedKey} {u v : Value} {Q : Unit → Shared → Prop} (room : A.units + 10 < cLine) (hk : NestedIs s.heap k u) (hd8 : k.depth ≤ 8) (hu2 : (∃ x t, u = .str x t) ∨ ∃ a, u = .ref a) (m : MixIs w s.heap d xs)
    (no : ∀ j, ¬ KeyAt xs k j) (fits : xs.length ≤ sizeLine) (h : ∀ h', MixIs w h' d (xs ++ [(k, u, v)]) → Heap.SameBut d s.heap h' → Q () { s with heap := h', toks := s.toks + k.draws }) : wpAny (model prog w) A (setItem (.ref d) u v) Q E s := by
  unfold setItem
  try with_reducible refine wpAny_holding ?_
  refine wpAny_bind (wpAny_sequenceKey m.typeIs (by decide) ?_)
  refine wpAny_bind (wpAny_callSpecial?_slot (name := Str.ofString "__setitem__") m.typeIs F.slot_dict_setitem (wpAny_call_entry F.slot_dict_setitem m.typeIs F.entry_dict_setitem ?_ (F.args_dict_setitem_3 _ _ _)))
  show wpAny _ _ (Builtin.Dict.notOrdered "__setitem__" ⟨[.ref d, u, v], []⟩ >>= _) _ _ s
  refine wpAny_bind (wpAny_notOrdered_dict m.typeIs ?_)
  show wpAny _ _ (dictSet d u v >>= _) _ _ s
  exact wpAny_bind (mix_set (by show A.units + 1 + 9 < cLine; omega) hk hd8 hu2 m no fits fun h' hm' hs' => wpAny_pure ⟨.none, rfl, wpAny_pure (h h' hm' hs')⟩)
end

/-! ### in the abstract heap -/
abbrev A3 := NestedKey × V × V
def RelRow (p : A3) (q : Row3) : Prop := p.1 = q.1 ∧ RelV p.2.1 q.2.1 ∧ RelV p.2.2 q.2.2
def MixO (w : World) (a : Addr) (ps : List A3) : HO := .ext fun h => (a == sysModules) = false ∧ ∃ xs, Paired RelRow ps xs ∧ ∃ o es ep, h.get? a = some o ∧ o.ExactDict ∧ o.data = .dict es ep ∧ es.toList = xs.map (entOf w)
/-- v is the key k -/
def KeyV (H : Hp) (k : NestedKey) (v : V) : Prop := (∃ x, k = .text x ∧ v = .str x) ∨ ∃ (a b : Int) (q : Addr), k = .tup [.num a, .num b] ∧ v = .ref q ∧ H q = some (.tup [.int a, .int b])
/-- at a stands such a dict -/
structure MixD (w : World) (H : Hp) (a : Addr) (ps : List A3) : Prop where
  at_ : H a = some (MixO w a ps)
  keys : ∀ p ∈ ps, KeyV H p.1 p.2.1
  nd : (ps.map fun p => p.1).Nodup
  fits : ps.length < 1000
theorem KeyV.depth {H : Hp} {k : NestedKey} {v : V} (h : KeyV H k v) : k.depth ≤ 8 := by
  rcases h with ⟨x, rfl, _⟩ | ⟨a, b, q, rfl, _, _⟩
  · exact Nat.zero_le _
  · show max 0 (max 0 0) + 1 ≤ 8
    decide
theorem KeyV.keep {H H' : Hp} {k : NestedKey} {v : V} (h : KeyV H k v) (ht : ∀ b xs, H b = some (.tup xs) → H' b = some (.tup xs)) : KeyV H' k v := by
  rcases h with h | ⟨a, b, q, e1, e2, e3⟩
  · exact .inl h
  · exact .inr ⟨a, b, q, e1, e2, ht _ _ e3⟩
section
variable {X : Cx} {pins : List (Addr × Obj)} {σ : L2.St} {H : Hp} {s : Shared} {a : Addr} {ps : List A3} {k : NestedKey} {y : V} {u : Value}
theorem KeyV.is (I : Inv X pins σ H s) (h : KeyV H k y) (r : RelV y u) : NestedIs s.heap k u ∧ ((∃ x t, u = .str x t) ∨ ∃ a, u = .ref a) := by
  rcases h with ⟨x, rfl, rfl⟩ | ⟨i, j, q, rfl, rfl, hq⟩
  · obtain ⟨t, rfl⟩ := r
    exact ⟨.text x t, .inl ⟨x, t, rfl⟩⟩
  · cases (show u = .ref q from r)
    obtain ⟨_, its, rv, o, ho, hc, n, hd⟩ := (show ObjOk X.prog X.w H s.heap q (.tup [.int i, .int j]) from I.hok q _ hq)
    refine ⟨.tup ho hc hd ?_, .inr ⟨q, rfl⟩⟩
    rw [List.toList_toArray]
    match its, rv with
    | _, .cons r1 (.cons r2 .nil) =>
      obtain ⟨t1, rfl⟩ := r1
      obtain ⟨t2, rfl⟩ := r2
      exact .cons (.int i t1) (.cons (.int j t2) .nil)
theorem MixD.raw (I : Inv X pins σ H s) (m : MixD X.w H a ps) : ∃ xs, Paired RelRow ps xs ∧ MixIs X.w s.heap a xs := by
  obtain ⟨⟨notm, xs, rel, o, es, ep, ho, hc, hd, he⟩, _, _⟩ := (show ObjOk X.prog X.w H s.heap a (MixO X.w a ps) from I.hok a _ m.at_)
  refine ⟨xs, rel, notm, o, es, ep, ho, hc, hd, he, fun x hx => ?_, ?_⟩
  · obtain ⟨i, hi⟩ := List.mem_iff_getElem?.mp hx
    have lt : i < ps.length := by
      have := (List.getElem?_eq_some_iff.mp hi).1
      rw [Paired.length rel]; exact this
    obtain ⟨x', hx', r1, r2, _⟩ := paired_get rel (List.getElem?_eq_getElem lt)
    rw [hi] at hx'
    cases hx'
    have kv := m.keys _ (List.getElem_mem lt)
    rw [← r1]
    exact ⟨(kv.is I r2).1, kv.depth⟩
  · have : (xs.map fun x => x.1) = ps.map fun p => p.1 := by
      have go : ∀ {l : List A3} {r : List Row3}, Paired RelRow l r → (r.map fun x => x.1) = l.map fun p => p.1 := by
        intro l r q
        induction q with
        | nil => rfl
        | cons z _ ih => rw [List.map_cons, List.map_cons, ih, z.1]
      exact go rel
    rw [this]; exact m.nd
def at3 (ps : List A3) (k : NestedKey) : Option V := (ps.find? fun p => decide (p.1 = k)).map fun p => p.2.2
theorem at3_rel {xs : List Row3} (rel : Paired RelRow ps xs) (k : NestedKey) : RelO (at3 ps k) (mixAt xs k) := by
  induction rel with
  | nil => exact True.intro
  | @cons p q ps qs r _ ih =>
    obtain ⟨r1, r2, r3⟩ := r
    by_cases e : p.1 = k
    · have e' : q.1 = k := r1 ▸ e
      simp only [at3, mixAt, List.find?_cons, e, e', decide_true, Option.map_some]
      exact r3
    · have e' : ¬ q.1 = k := r1 ▸ e
      simp only [at3, mixAt, List.find?_cons, e, e', decide_false] at ih ⊢
      exact ih
theorem keyAt_rel {xs : List Row3} (rel : Paired RelRow ps xs) (no : at3 ps k = none) : ∀ j, ¬ KeyAt xs k j := fun j ⟨p, hp⟩ => by
  have h := at3_rel rel k
  rw [no] at h
  have : mixAt xs k ≠ none := fun z => by
    unfold mixAt at z
    have := List.find?_eq_none.mp (Option.map_eq_none_iff.mp z) _ (List.mem_of_getElem? hp)
    simp at this
  cases q : mixAt xs k with
  | none => exact this q
  | some v => rw [q] at h; exact h
/-- the stored dict is held again -/
theorem MixD.stored {xs : List Row3} {v : V} {r : Value} {h' : Heap} {t' : Nat} (I : Inv X pins σ H s) (m : MixD X.w H a ps) (rel : Paired RelRow ps xs) (ry : RelV y u) (rv : RelV v r) (dd : MixIs X.w h' a (xs ++ [(k, u, r)])) (hs : Heap.SameBut a s.heap h') :
    Inv X pins σ (upd H a (MixO X.w a (ps ++ [(k, y, v)]))) { s with heap := h', toks := t' } := by
  obtain ⟨notm, o, es, ep, ho, hc, hd, me⟩ := dd
  refine d_write I (by rw [m.at_]; exact True.intro) hs ⟨o, ho⟩ ⟨⟨notm, _, Paired.snoc rel ⟨rfl, ry, rv⟩, o, es, ep, ho, hc, hd, me.ents⟩, ⟨o, ho⟩, ?_⟩
  rintro h1 h2 ⟨n1, xs1, rel1, o1, es1, ep1, g1, c1, d1, e1⟩ hk
  exact ⟨n1, xs1, rel1, o1, es1, ep1, hk _ g1, c1, d1, e1⟩
theorem MixD.snoc {v : V} (m : MixD X.w H a ps) (hk : KeyV H k y) (no : at3 ps k = none) (fits : ps.length + 1 < 1000) : MixD X.w (upd H a (MixO X.w a (ps ++ [(k, y, v)]))) a (ps ++ [(k, y, v)]) := by
  have ht : ∀ b xs, H b = some (.tup xs) → (upd H a (MixO X.w a (ps ++ [(k, y, v)]))) b = some (.tup xs) := fun b xs e => by
    rw [upd_ne (ne_of e m.at_ fun z => nomatch z)]; exact e
  refine ⟨upd_same, fun p hp => ?_, ?_, by simpa using fits⟩
  · rcases List.mem_append.mp hp with hp | hp
    · exact (m.keys p hp).keep ht
    · rw [List.mem_singleton.mp hp]; exact hk.keep ht
  · rw [List.map_append]
    refine nd_snoc m.nd fun z => ?_
    obtain ⟨p, hp, e⟩ := List.mem_map.mp z
    have := List.find?_eq_none.mp (Option.map_eq_none_iff.mp no) p hp
    simp at this
    exact this e
end
section
variable {X : Cx} {o i e value : Expr} {pos pos' : Pos} {td ty tv : TE}
theorem mix_room {k : Nat} {A : Around} (hr : Room k A) : A.units + 20 < cLine := Nat.lt_of_le_of_lt (Nat.add_le_add_left (by decide : 20 ≤ 64) _) hr.units
def tMGet (X : Cx) (td ty : TE) : TE := fun σ H Q => td σ H fun x H1 => ty σ H1 fun y H2 => ∃ a ps k v, x = .ref a ∧ MixD X.w H2 a ps ∧ KeyV H2 k y ∧ at3 ps k = some v ∧ Q v H2
theorem pe_mget (hu : X.A.units + 20 < cLine) (ho : PE X o td) (hi : PE X i ty) (hs : NoSl i) : PE X (.Subscript o i pos) (tMGet X td ty) := by
  refine ⟨fun pins s σ H Q I h => subD_of PySem.F.slot_dict_getitem.lookup hs (thn (ho.run pins s σ H _ I h) fun u s1 ⟨x, H1, I1, rx, q1⟩ => thn (hi.run pins s1 σ H1 _ I1 q1) fun iv s2 ⟨y, H2, I2, ry, a, ps, k, v, ex, m, kv, hv, q2⟩ => ?_)⟩
  subst ex
  obtain rfl : u = Value.ref a := rx
  obtain ⟨xs, rel, mi⟩ := m.raw I2
  obtain ⟨n1, n2⟩ := kv.is I2 ry
  have ro := at3_rel rel k
  rw [hv] at ro
  cases q : mixAt xs k with
  | none => rw [q] at ro; exact ro.elim
  | some w' =>
    rw [q] at ro
    exact ⟨mi.typeIs, mix_getItem (by omega) n1 kv.depth n2 mi q ⟨v, H2, I2.tok _, ro, q2⟩⟩
def rMNotIn (X : Cx) : R2 := fun y x H Q => ∃ a ps k, x = .ref a ∧ MixD X.w H a ps ∧ KeyV H k y ∧ Q (.bl (!(at3 ps k).isSome)) H
theorem op_mnotin (hu : X.A.units + 20 < cLine) : OpR X (compareOp .NotIn) (rMNotIn X) := by
  intro pins s σ H y x iv u Q I ry rx h
  obtain ⟨a, ps, k, ex, m, kv, q⟩ := h
  subst ex
  obtain rfl : u = Value.ref a := rx
  obtain ⟨xs, rel, mi⟩ := m.raw I
  obtain ⟨n1, n2⟩ := kv.is I ry
  have ro := (at3_rel rel k).isSome_eq
  show wpAny _ _ (do return Value.bool (!(← contains (.ref a) iv))) _ _ s
  refine wpAny_bind (mix_contains (by omega) n1 kv.depth n2 mi (wpAny_pure ⟨.bl (!(at3 ps k).isSome), H, I.tok _, ?_, q⟩))
  show Value.bool _ = Value.bool _
  rw [ro]
/-- d[k] = v for a new key -/
def sMPut (X : Cx) (td ty tv : TE) : TS := fun D σ H => tv σ H fun v H1 => td σ H1 fun x H2 => ty σ H2 fun y H3 => ∃ a ps k, x = .ref a ∧ MixD X.w H3 a ps ∧ KeyV H3 k y ∧ at3 ps k = none ∧ ps.length + 1 < 1000 ∧
  (MixD X.w (upd H3 a (MixO X.w a (ps ++ [(k, y, v)]))) a (ps ++ [(k, y, v)]) → D.nx σ (upd H3 a (MixO X.w a (ps ++ [(k, y, v)]))))
theorem ps_mput (hu : X.A.units + 20 < cLine) (ho : PE X o td) (hi : PE X i ty) (hv : PE X value tv) (hs : swapsWith value (some (.Subscript o i pos')) pos.line X.env = pure false) :
    PS X (.Assign [.Subscript o i pos'] value pos) (sMPut X td ty tv) := by
  refine ⟨fun pins s σ H D I h => ?_⟩
  refine wpAny_Assign_Subscript (thn (hv.run pins s σ H _ I h) fun r s1 ⟨v, H1, I1, rv, q1⟩ => thn (ho.run pins s1 σ H1 _ I1 q1) fun u s2 ⟨x, H2, I2, rx, q2⟩ => thn (hi.run pins s2 σ H2 _ I2 q2) fun iv s3 ⟨y, H3, I3, ry, a, ps, k, ex, m, kv, no, fits, q3⟩ => ?_) hs
  subst ex
  obtain rfl : u = Value.ref a := rx
  obtain ⟨xs, rel, mi⟩ := m.raw I3
  obtain ⟨n1, n2⟩ := kv.is I3 ry
  have len : xs.length ≤ sizeLine := by
    rw [← Paired.length rel, sizeLine_eq]
    have := m.fits
    omega
  exact mix_setItem (by omega) n1 kv.depth n2 mi (keyAt_rel rel no) len fun h' dd hs' => ⟨σ, _, m.stored I3 rel ry rv dd hs', q3 (m.snoc kv no fits)⟩
/-- {k: v} -/
def tMNew (X : Cx) (tk tv : TE) : TE := fun σ H Q => ∀ p, H p = none → tk σ (upd H p (MixO X.w p [])) fun y H1 => tv σ H1 fun v H2 => H2 p = some (MixO X.w p []) ∧ ∃ k, KeyV H2 k y ∧
  (MixD X.w (upd H2 p (MixO X.w p [(k, y, v)])) p [(k, y, v)] → Q (.ref p) (upd H2 p (MixO X.w p [(k, y, v)])))
theorem pe_mnew {kx vx : Expr} {tk tv : TE} (hu : X.A.units + 20 < cLine) (hk : PE X kx tk) (hv : PE X vx tv) : PE X (.Dict [some kx] [vx] pos) (tMNew X tk tv) := by
  refine ⟨fun pins s σ H Q I h => ?_⟩
  have fresh := I.hok.fresh (Nat.le_refl s.heap.objs.size)
  have newObj : (s.heap.push { cls := .type "dict", data := .dict #[] }).get? s.heap.objs.size = some { cls := .type "dict", data := .dict #[] } := Heap.get?_push_size _ rfl
  have notm : (s.heap.objs.size == sysModules) = false := beq_eq_false_iff_ne.mpr (Ne.symm (Nat.ne_of_lt I.big))
  have I1 : Inv X pins σ (upd H s.heap.objs.size (MixO X.w s.heap.objs.size [])) { s with heap := s.heap.push { cls := .type "dict", data := .dict #[] } } := by
    refine I.laid (t' := s.toks) (fun _ _ q => Heap.get?_push_of_some _ q) (Nat.le_refl _) ⟨⟨notm, [], .nil, _, #[], 0, newObj, ⟨rfl, rfl, rfl⟩, rfl, rfl⟩, ⟨_, newObj⟩, ?_⟩
    rintro h1 h2 ⟨n1, xs1, rel1, o1, es1, ep1, g1, c1, d1, e1⟩ hk
    exact ⟨n1, xs1, rel1, o1, es1, ep1, hk _ g1, c1, d1, e1⟩
  refine wpAny_Dict_any rfl rfl (by simp) (by simp) (pairTrees_cons_walk (thn (hk.run pins _ σ _ _ I1 (h _ fresh)) fun u s1 ⟨y, H1, I2, ry, q1⟩ => thn (hv.run pins s1 σ H1 _ I2 q1) fun r s2 ⟨v, H2, I3, rv, at_, k, kv, q2⟩ => pairTrees_nil_walk ?_))
  unfold storeAll
  rw [List.forIn_cons]
  have m0 : MixD X.w H2 s.heap.objs.size [] := ⟨at_, fun p hp => (nomatch hp), List.nodup_nil, by simp⟩
  obtain ⟨xs, rel, mi⟩ := m0.raw I3
  cases rel
  obtain ⟨n1, n2⟩ := kv.is I3 ry
  refine wpAny_bind (wpAny_bind (mix_set (by omega) n1 kv.depth n2 mi (fun j ⟨p, hp⟩ => by simp at hp) (Nat.zero_le _) fun h' dd hs' => wpAny_pure ?_))
  show wpAny _ _ (forIn [] PUnit.unit _) _ _ _
  rw [List.forIn_nil]
  exact wpAny_pure ⟨.ref s.heap.objs.size, _, m0.stored I3 .nil ry rv dd hs', rfl, q2 (m0.snoc kv rfl (by simp))⟩
end
end HW
end
section
/-! HWNet: sums over lists; flows in a network; paths, cuts; the greedy amounts. Plain Lean. -/
namespace HW

/-! ### sums -/
def sumL {α : Type} (l : List α) (f : α → Int) : Int := match l with
  | [] => 0
  | a :: r => f a + sumL r f
section
variable {α β : Type}
@[simp] theorem sumL_nil (f : α → Int) : sumL [] f = 0 := rfl
@[simp] theorem sumL_cons (a : α) (r : List α) (f : α → Int) : sumL (a :: r) f = f a + sumL r f := rfl
theorem sumL_append (l r : List α) (f : α → Int) : sumL (l ++ r) f = sumL l f + sumL r f := by
  induction l with
  | nil => simp
  | cons a l ih => simp only [List.cons_append, sumL_cons, ih]; omega
theorem sumL_congr {l : List α} {f g : α → Int} (h : ∀ a ∈ l, f a = g a) : sumL l f = sumL l g := by
  induction l with
  | nil => rfl
  | cons a l ih =>
    simp only [sumL_cons]
    rw [h a (by simp), ih fun x hx => h x (by simp [hx])]
theorem sumL_le {l : List α} {f g : α → Int} (h : ∀ a ∈ l, f a ≤ g a) : sumL l f ≤ sumL l g := by
  induction l with
  | nil => exact Int.le_refl _
  | cons a l ih =>
    simp only [sumL_cons]
    have h1 := h a (by simp)
    have h2 := ih fun x hx => h x (by simp [hx])
    omega
theorem sumL_zero {l : List α} {f : α → Int} (h : ∀ a ∈ l, f a = 0) : sumL l f = 0 := by
  induction l with
  | nil => rfl
  | cons a l ih =>
    simp only [sumL_cons]
    rw [h a (by simp), ih fun x hx => h x (by simp [hx])]
    rfl
theorem sumL_nonneg {l : List α} {f : α → Int} (h : ∀ a ∈ l, 0 ≤ f a) : 0 ≤ sumL l f := by
  induction l with
  | nil => exact Int.le_refl _
  | cons a l ih =>
    simp only [sumL_cons]
    have h1 := h a (by simp)
    have h2 := ih fun x hx => h x (by simp [hx])
    omega
theorem sumL_add (l : List α) (f g : α → Int) : sumL l (fun a => f a + g a) = sumL l f + sumL l g := by
  induction l with
  | nil => rfl
  | cons a l ih => simp only [sumL_cons, ih]; omega
theorem sumL_sub (l : List α) (f g : α → Int) : sumL l (fun a => f a - g a) = sumL l f - sumL l g := by
  induction l with
  | nil => rfl
  | cons a l ih => simp only [sumL_cons, ih]; omega
theorem sumL_map (l : List α) (k : α → β) (f : β → Int) : sumL (l.map k) f = sumL l fun a => f (k a) := by
  induction l with
  | nil => rfl
  | cons a l ih => simp only [List.map_cons, sumL_cons, ih]
theorem sumL_flatMap (l : List α) (k : α → List β) (f : β → Int) : sumL (l.flatMap k) f = sumL l fun a => sumL (k a) f := by
  induction l with
  | nil => rfl
  | cons a l ih => simp only [List.flatMap_cons, sumL_append, sumL_cons, ih]
theorem sumL_swap (l : List α) (r : List β) (f : α → β → Int) : sumL l (fun a => sumL r fun b => f a b) = sumL r fun b => sumL l fun a => f a b := by
  induction l with
  | nil => simp only [sumL_nil]; exact (sumL_zero fun _ _ => rfl).symm
  | cons a l ih => simp only [sumL_cons, ih, sumL_add]
theorem sumL_ite (l : List α) (p : Prop) [Decidable p] (f : α → Int) : sumL l (fun a => if p then f a else 0) = if p then sumL l f else 0 := by
  by_cases h : p
  · simp only [h, if_true]
  · simp only [h, if_false]; exact sumL_zero fun _ _ => rfl
/-- the one place where it is so -/
theorem sumL_delta [DecidableEq α] {l : List α} (nd : l.Nodup) (x : α) (f : α → Int) : sumL l (fun a => if a = x then f a else 0) = if x ∈ l then f x else 0 := by
  induction l with
  | nil => simp
  | cons a l ih =>
    obtain ⟨h1, h2⟩ := List.nodup_cons.mp nd
    simp only [sumL_cons, ih h2, List.mem_cons]
    by_cases e : a = x
    · subst e
      simp [h1]
    · have e' : ¬ x = a := fun z => e z.symm
      simp [e, e']
theorem sumL_filter (l : List α) (p : α → Bool) (f : α → Int) : sumL (l.filter p) f = sumL l fun a => if p a = true then f a else 0 := by
  induction l with
  | nil => rfl
  | cons a l ih =>
    by_cases h : p a = true
    · simp only [List.filter_cons, h, if_true, sumL_cons, ih]
    · simp only [List.filter_cons, h, sumL_cons, ih, if_false, Bool.false_eq_true]; omega
theorem sumL_eq_sum (l : List Int) : sumL l (fun a => a) = l.sum := by
  induction l with
  | nil => rfl
  | cons a l ih => simp only [sumL_cons, List.sum_cons, ih]
theorem sumL_sum (l : List α) (f : α → Int) : (l.map f).sum = sumL l f := by
  induction l with
  | nil => rfl
  | cons a l ih => simp only [List.map_cons, List.sum_cons, sumL_cons, ih]
/-- each term at most, and the sums alike: each term alike -/
theorem sumL_eq_each {l : List α} {f g : α → Int} (h : ∀ a ∈ l, f a ≤ g a) (s : sumL l g ≤ sumL l f) : ∀ a ∈ l, f a = g a := by
  induction l with
  | nil => intro a ha; cases ha
  | cons b l ih =>
    simp only [sumL_cons] at s
    have h1 := h b (by simp)
    have h2 : sumL l f ≤ sumL l g := sumL_le fun x hx => h x (by simp [hx])
    intro a ha
    rcases List.mem_cons.mp ha with rfl | ha
    · omega
    · exact ih (fun x hx => h x (by simp [hx])) (by omega) a ha
end

/-! ### networks -/
structure Net (ι ν : Type) where
  ids : List ι
  tl : ι → ν
  hd : ι → ν
  most : ι → Option Int
/-- a step along an arc, or back -/
structure Step (ι : Type) where
  i : ι
  up : Bool
  deriving DecidableEq
section
variable {ι ν : Type} [DecidableEq ι] [DecidableEq ν]
def Net.out (N : Net ι ν) (st : Step ι) : ν := if st.up = true then N.tl st.i else N.hd st.i
def Net.into (N : Net ι ν) (st : Step ι) : ν := if st.up = true then N.hd st.i else N.tl st.i
variable (N : Net ι ν)
/-- no arc carries less than nothing or more than it can -/
def Feas (f : ι → Int) : Prop := ∀ i ∈ N.ids, 0 ≤ f i ∧ ∀ c, N.most i = some c → f i ≤ c
/-- what comes into a set of nodes, less what goes out of it -/
def gain (f : ι → Int) (X : ν → Bool) : Int := sumL N.ids fun i => (if X (N.hd i) = true then f i else 0) - (if X (N.tl i) = true then f i else 0)
def enters (X : ν → Bool) (i : ι) : Prop := X (N.hd i) = true ∧ X (N.tl i) = false
instance (X : ν → Bool) (i : ι) : Decidable (enters N X i) := by unfold enters; infer_instance
/-- what can enter a set at most (nothing for an arc without a limit) -/
def cap (X : ν → Bool) : Int := sumL N.ids fun i => if enters N X i then (N.most i).getD 0 else 0
def Shut (X : ν → Bool) : Prop := ∀ i ∈ N.ids, enters N X i → ∃ c, N.most i = some c
/-- all arcs into the set are full, and those out of it empty -/
def Tight (f : ι → Int) (X : ν → Bool) : Prop := ∀ i ∈ N.ids, (enters N X i → N.most i = some (f i)) ∧ (X (N.tl i) = true → X (N.hd i) = false → f i = 0)
/-- a step that can be taken -/
def Can (f : ι → Int) (fx : ι → Bool) (st : Step ι) : Prop := st.i ∈ N.ids ∧ fx st.i = false ∧ (st.up = true → N.most st.i ≠ some (f st.i)) ∧ (st.up = false → 0 < f st.i)
variable {N}
theorem gain_le {f : ι → Int} {X : ν → Bool} (F : Feas N f) (S : Shut N X) : gain N f X ≤ cap N X := by
  refine sumL_le fun i hi => ?_
  obtain ⟨h0, h1⟩ := F i hi
  by_cases hh : X (N.hd i) = true
  · by_cases ht : X (N.tl i) = true
    · rw [if_pos hh, if_pos ht, if_neg (show ¬ enters N X i from fun z => Bool.noConfusion (ht.symm.trans z.2))]; omega
    · have en : enters N X i := ⟨hh, by simpa using ht⟩
      obtain ⟨c, e⟩ := S i hi en
      rw [if_pos hh, if_neg ht, if_pos en, e]
      have := h1 c e
      simp only [Option.getD_some]; omega
  · rw [if_neg hh, if_neg (show ¬ enters N X i from fun z => hh z.1)]
    by_cases ht : X (N.tl i) = true
    · rw [if_pos ht]; omega
    · rw [if_neg ht]; omega
theorem Tight.shut {f : ι → Int} {X : ν → Bool} (T : Tight N f X) : Shut N X := fun i hi en => ⟨_, (T i hi).1 en⟩
theorem Tight.eq {f : ι → Int} {X : ν → Bool} (T : Tight N f X) : gain N f X = cap N X := by
  refine sumL_congr fun i hi => ?_
  obtain ⟨h1, h2⟩ := T i hi
  by_cases hh : X (N.hd i) = true
  · by_cases ht : X (N.tl i) = true
    · rw [if_pos hh, if_pos ht, if_neg (show ¬ enters N X i from fun z => Bool.noConfusion (ht.symm.trans z.2))]; omega
    · have en : enters N X i := ⟨hh, by simpa using ht⟩
      rw [if_pos hh, if_neg ht, if_pos en, h1 en]
      simp only [Option.getD_some]; omega
  · rw [if_neg hh, if_neg (show ¬ enters N X i from fun z => hh z.1)]
    by_cases ht : X (N.tl i) = true
    · rw [if_pos ht, h2 ht (by simpa using hh)]; rfl
    · rw [if_neg ht]; rfl
theorem tight_of {f : ι → Int} {X : ν → Bool} (F : Feas N f) (S : Shut N X) (h : cap N X ≤ gain N f X) : Tight N f X := by
  have each : ∀ i ∈ N.ids, ((if X (N.hd i) = true then f i else 0) - (if X (N.tl i) = true then f i else 0)) = (if enters N X i then (N.most i).getD 0 else 0) := by
    refine sumL_eq_each (fun i hi => ?_) h
    obtain ⟨h0, h1⟩ := F i hi
    by_cases hh : X (N.hd i) = true
    · by_cases ht : X (N.tl i) = true
      · rw [if_pos hh, if_pos ht, if_neg (show ¬ enters N X i from fun z => Bool.noConfusion (ht.symm.trans z.2))]; omega
      · have en : enters N X i := ⟨hh, by simpa using ht⟩
        obtain ⟨c, e⟩ := S i hi en
        rw [if_pos hh, if_neg ht, if_pos en, e]
        have := h1 c e
        simp only [Option.getD_some]; omega
    · rw [if_neg hh, if_neg (show ¬ enters N X i from fun z => hh z.1)]
      by_cases ht : X (N.tl i) = true
      · rw [if_pos ht]; omega
      · rw [if_neg ht]; omega
  intro i hi
  have e := each i hi
  refine ⟨fun en => ?_, fun ht hh => ?_⟩
  · obtain ⟨c, q⟩ := S i hi en
    rw [if_pos en.1, if_neg (by simp [en.2]), if_pos en, q] at e
    simp only [Option.getD_some] at e
    rw [q]; congr 1; omega
  · rw [if_neg (show ¬ X (N.hd i) = true by simp [hh]), if_pos ht, if_neg (show ¬ enters N X i from fun z => Bool.noConfusion (hh.symm.trans z.1))] at e
    omega

/-! ### one step -/
def put (f : ι → Int) (i : ι) (z : Int) : ι → Int := fun j => if j = i then z else f j
theorem put_self (f : ι → Int) (i : ι) (z : Int) : put f i z i = z := by unfold put; rw [if_pos rfl]
theorem put_ne (f : ι → Int) {i j : ι} (z : Int) (h : j ≠ i) : put f i z j = f j := by unfold put; rw [if_neg h]
def shove (f : ι → Int) (a : Int) (st : Step ι) : ι → Int := put f st.i (f st.i + (if st.up = true then a else 0 - a))
def shoves (f : ι → Int) (a : Int) (path : List (Step ι)) : ι → Int := path.foldl (fun f st => shove f a st) f
theorem gain_put (nd : N.ids.Nodup) {i : ι} (hi : i ∈ N.ids) (f : ι → Int) (z : Int) (X : ν → Bool) :
    gain N (put f i z) X = gain N f X + (if X (N.hd i) = true then z - f i else 0) - (if X (N.tl i) = true then z - f i else 0) := by
  have e : gain N (put f i z) X = gain N f X + sumL N.ids (fun j => if j = i then ((if X (N.hd j) = true then z - f j else 0) - (if X (N.tl j) = true then z - f j else 0)) else 0) := by
    unfold gain
    rw [← sumL_add]
    refine sumL_congr fun j _ => ?_
    by_cases h : j = i
    · subst h
      rw [put_self, if_pos rfl]
      by_cases h1 : X (N.hd j) = true <;> by_cases h2 : X (N.tl j) = true <;> simp only [h1, h2, if_true, if_false, Bool.false_eq_true] <;> omega
    · rw [put_ne _ _ h, if_neg h]; omega
  rw [e, sumL_delta nd, if_pos hi]
  omega
theorem gain_shove (nd : N.ids.Nodup) {st : Step ι} (hi : st.i ∈ N.ids) (f : ι → Int) (a : Int) (X : ν → Bool) :
    gain N (shove f a st) X = gain N f X + (if X (N.into st) = true then a else 0) - (if X (N.out st) = true then a else 0) := by
  unfold shove
  rw [gain_put nd hi]
  unfold Net.into Net.out
  cases st.up <;> simp only [if_true, if_false, Bool.false_eq_true]
  all_goals
    by_cases h1 : X (N.hd st.i) = true <;> by_cases h2 : X (N.tl st.i) = true <;> simp only [h1, h2, if_true, if_false, Bool.false_eq_true] <;> omega

/-! ### ways: the steps from the end back to the beginning -/
/-- the steps lead from b to e -/
def Chain (N : Net ι ν) (b : ν) : ν → List (Step ι) → Prop
  | e, [] => e = b
  | e, st :: r => N.into st = e ∧ Chain N b (N.out st) r
theorem gain_shoves (nd : N.ids.Nodup) {b : ν} (a : Int) (X : ν → Bool) : ∀ (path : List (Step ι)) (e : ν) (f : ι → Int), Chain N b e path → (∀ st ∈ path, st.i ∈ N.ids) →
    gain N (shoves f a path) X = gain N f X + (if X e = true then a else 0) - (if X b = true then a else 0)
  | [], e, f, c, _ => by
    have c : e = b := c
    subst c
    show gain N f X = _
    omega
  | st :: r, e, f, c, h => by
    obtain ⟨c1, c2⟩ := c
    show gain N (shoves (shove f a st) a r) X = _
    rw [gain_shoves nd a X r _ _ c2 fun x hx => h x (by simp [hx]), gain_shove nd (h st (by simp)), c1]
    omega
/-- an arc's residue allows the amount -/
def Allows (N : Net ι ν) (f : ι → Int) (a : Int) (st : Step ι) : Prop := (st.up = true → ∀ c, N.most st.i = some c → f st.i + a ≤ c) ∧ (st.up = false → a ≤ f st.i)
theorem feas_shove {f : ι → Int} {a : Int} {st : Step ι} (F : Feas N f) (ha : 0 ≤ a) (hi : st.i ∈ N.ids) (al : Allows N f a st) : Feas N (shove f a st) := by
  intro j hj
  obtain ⟨h0, h1⟩ := F j hj
  by_cases e : j = st.i
  · subst e
    unfold shove
    rw [put_self]
    cases h : st.up with
    | true =>
      rw [if_pos rfl]
      exact ⟨by omega, fun c hc => al.1 h c hc⟩
    | false =>
      rw [if_neg (by simp)]
      have := al.2 h
      exact ⟨by omega, fun c hc => by have := h1 c hc; omega⟩
  · unfold shove
    rw [put_ne _ _ e]
    exact ⟨h0, h1⟩
theorem feas_shoves {a : Int} (ha : 0 ≤ a) : ∀ (path : List (Step ι)) (f : ι → Int), Feas N f → (path.map (·.i)).Nodup → (∀ st ∈ path, st.i ∈ N.ids) → (∀ st ∈ path, Allows N f a st) → Feas N (shoves f a path)
  | [], f, F, _, _, _ => F
  | st :: r, f, F, nd, hi, al => by
    have nd : (st.i :: r.map (·.i)).Nodup := nd
    obtain ⟨n1, n2⟩ := List.nodup_cons.mp nd
    refine feas_shoves ha r (shove f a st) (feas_shove F ha (hi st (by simp)) (al st (by simp))) n2 (fun x hx => hi x (by simp [hx])) fun x hx => ?_
    have ne : x.i ≠ st.i := fun z => n1 (by rw [← z]; exact List.mem_map.mpr ⟨x, hx, rfl⟩)
    have := al x (by simp [hx])
    unfold Allows shove at *
    rw [put_ne _ _ ne]
    exact this
theorem shoves_other {a : Int} {j : ι} : ∀ (path : List (Step ι)) (f : ι → Int), ¬ j ∈ path.map (·.i) → shoves f a path j = f j
  | [], _, _ => rfl
  | st :: r, f, h => by
    have h : ¬ j ∈ st.i :: r.map (·.i) := h
    show shoves (shove f a st) a r j = f j
    rw [shoves_other r _ fun z => h (by simp [z])]
    unfold shove
    exact put_ne _ _ fun z => h (by simp [z])
/-- the nodes of a way, from its end -/
def spots (N : Net ι ν) (e : ν) (path : List (Step ι)) : List ν := e :: path.map N.out
theorem ends_in {b : ν} : ∀ {path : List (Step ι)} {e : ν}, Chain N b e path → ∀ st ∈ path, N.into st ∈ spots N e path ∧ N.out st ∈ spots N e path
  | [], _, _, _, h => nomatch h
  | st :: r, e, c, x, h => by
    obtain ⟨c1, c2⟩ := c
    rcases List.mem_cons.mp h with rfl | h
    · exact ⟨by rw [c1]; exact List.mem_cons_self, List.mem_cons_of_mem _ (by simp)⟩
    · obtain ⟨h1, h2⟩ := ends_in c2 x h
      have sub : ∀ v, v ∈ spots N (N.out st) r → v ∈ spots N e (st :: r) := fun v hv => List.mem_cons_of_mem _ hv
      exact ⟨sub _ h1, sub _ h2⟩
/-- on a way that meets no node twice no arc is used twice -/
theorem ids_nodup {b : ν} : ∀ {path : List (Step ι)} {e : ν}, Chain N b e path → (spots N e path).Nodup → (path.map (·.i)).Nodup
  | [], _, _, _ => List.nodup_nil
  | st :: r, e, c, nd => by
    obtain ⟨c1, c2⟩ := c
    have nd : (e :: spots N (N.out st) r).Nodup := nd
    obtain ⟨n1, n2⟩ := List.nodup_cons.mp nd
    show (st.i :: r.map (·.i)).Nodup
    refine List.nodup_cons.mpr ⟨fun m => ?_, ids_nodup c2 n2⟩
    obtain ⟨x, hx, ex⟩ := List.mem_map.mp m
    obtain ⟨h1, h2⟩ := ends_in c2 x hx
    have key : N.into st = N.into x ∨ N.into st = N.out x := by
      unfold Net.into Net.out
      rw [ex]
      cases st.up <;> cases x.up <;> simp
    rw [c1] at key
    rcases key with k | k
    · exact n1 (by rw [k]; exact h1)
    · exact n1 (by rw [k]; exact h2)

/-- a way that can be gone, meeting no node twice -/
structure Way (N : Net ι ν) (f : ι → Int) (fx : ι → Bool) (b e : ν) (path : List (Step ι)) : Prop where
  chain : Chain N b e path
  nd : (spots N e path).Nodup
  can : ∀ st ∈ path, Can N f fx st
/-- a set of nodes that holds the beginning, not the end, and that no step leaves -/
structure Cut (N : Net ι ν) (f : ι → Int) (fx : ι → Bool) (b e : ν) (X : ν → Bool) : Prop where
  b : X b = true
  e : X e = false
  shut : ∀ st, Can N f fx st → X (N.out st) = true → X (N.into st) = true

/-- what leading water does: told of the flows before and behind -/
structure Pushed (N : Net ι ν) (fx : ι → Bool) (b e : ν) (most : Int) (f : ι → Int) (t : Int) (f' : ι → Int) : Prop where
  feas : Feas N f'
  lo : 0 ≤ t
  hi : t ≤ most
  gain : ∀ X, gain N f' X = gain N f X + (if X e = true then t else 0) - (if X b = true then t else 0)
  fixed : ∀ i, fx i = true → f' i = f i
theorem Pushed.start {fx : ι → Bool} {b e : ν} {most : Int} {f : ι → Int} (F : Feas N f) (h : 0 ≤ most) : Pushed N fx b e most f 0 f :=
  ⟨F, Int.le_refl _, h, fun X => by simp, fun _ _ => rfl⟩
theorem Pushed.more {fx : ι → Bool} {b e : ν} {most : Int} {f f1 : ι → Int} {t a : Int} {path : List (Step ι)} (ndI : N.ids.Nodup) (P : Pushed N fx b e most f t f1) (W : Way N f1 fx b e path) (a0 : 0 ≤ a) (ha : t + a ≤ most) (al : ∀ st ∈ path, Allows N f1 a st) :
    Pushed N fx b e most f (t + a) (shoves f1 a path) := by
  have nd := ids_nodup W.chain W.nd
  have hi : ∀ st ∈ path, st.i ∈ N.ids := fun st h => (W.can st h).1
  refine ⟨feas_shoves a0 path f1 P.feas nd hi al, by have := P.lo; omega, ha, fun X => ?_, fun i h => ?_⟩
  · rw [gain_shoves ndI a X path e f1 W.chain hi, P.gain X]
    by_cases h1 : X e = true <;> by_cases h2 : X b = true <;> simp only [h1, h2, if_true, if_false, Bool.false_eq_true] <;> omega
  · rw [shoves_other path f1 fun m => ?_]
    · exact P.fixed i h
    · obtain ⟨x, hx, ex⟩ := List.mem_map.mp m
      have := (W.can x hx).2.1
      rw [ex, h] at this
      cases this
end
end HW
end
section
/-! HWGreedy: the greatest deliveries: a flow and, for each short claim, a set that holds no more; they are one, and no other flow gives the first claims more. -/
namespace HW
section
variable {ι ν : Type} [DecidableEq ι] [DecidableEq ν] {N : Net ι ν}

/-- what the claims whose nodes are in X get -/
def inX (X : ν → Bool) (cl : List (ν × Int)) (as : List Int) : Int := sumL (cl.zip as) fun p => if X p.1.1 = true then p.2 else 0
theorem inX_append (X : ν → Bool) (cl cl' : List (ν × Int)) (as as' : List Int) (h : cl.length = as.length) : inX X (cl ++ cl') (as ++ as') = inX X cl as + inX X cl' as' := by
  unfold inX
  rw [List.zip_append h, sumL_append]
theorem inX_one (X : ν → Bool) (c : ν × Int) (a : Int) : inX X [c] [a] = if X c.1 = true then a else 0 := by
  unfold inX
  simp

/-- claim j (with amount a) is short, and X shows why: as0 the amounts ahead of it -/
structure Why (N : Net ι ν) (s : ν) (X : ν → Bool) (cl : List (ν × Int)) (as : List Int) : Prop where
  src : X s = false
  shut : Shut N X
  cap : cap N X = inX X cl as

/-- the first claims have got as much as can be -/
structure Led (N : Net ι ν) (s : ν) (cl : List (ν × Int)) (as : List Int) (f : ι → Int) : Prop where
  len : as.length = cl.length
  feas : Feas N f
  gain : ∀ X : ν → Bool, X s = false → gain N f X = inX X cl as
  each : ∀ (j : Nat) (c : ν × Int) (a : Int), cl[j]? = some c → as[j]? = some a → 0 ≤ a ∧ a ≤ c.2 ∧ (a < c.2 → ∃ X : ν → Bool, X c.1 = true ∧ Why N s X (cl.take (j + 1)) (as.take (j + 1)))

theorem Led.nil {s : ν} {f : ι → Int} (F : Feas N f) (g : ∀ X : ν → Bool, X s = false → HW.gain N f X = 0) : Led N s [] [] f :=
  ⟨rfl, F, fun X h => by rw [g X h]; rfl, fun j c a h => by simp at h⟩

/-- a cut shows why: nothing fixed -/
theorem why_of_cut {s e : ν} {f : ι → Int} {fx : ι → Bool} {X : ν → Bool} {cl : List (ν × Int)} {as : List Int} (F : Feas N f) (nofx : ∀ i ∈ N.ids, fx i = false) (C : Cut N f fx s e X)
    (g : ∀ X : ν → Bool, X s = false → gain N f X = inX X cl as) : (fun v => !X v) e = true ∧ Why N s (fun v => !X v) cl as := by
  have hs : (fun v => !X v) s = false := by simp [C.b]
  have T : Tight N f (fun v => !X v) := by
    intro i hi
    refine ⟨fun en => ?_, fun ht hh => ?_⟩
    · have h1 : X (N.hd i) = false := by simpa using en.1
      have h2 : X (N.tl i) = true := by simpa using en.2
      refine Classical.byContradiction fun ne => ?_
      have c : Can N f fx ⟨i, true⟩ := ⟨hi, nofx i hi, fun _ => ne, fun z => (by cases z)⟩
      have := C.shut ⟨i, true⟩ c h2
      have this : X (N.hd i) = true := this
      rw [h1] at this; cases this
    · have h1 : X (N.hd i) = true := by simpa using hh
      have h2 : X (N.tl i) = false := by simpa using ht
      refine Classical.byContradiction fun ne => ?_
      have p : 0 < f i := by have := (F i hi).1; omega
      have c : Can N f fx ⟨i, false⟩ := ⟨hi, nofx i hi, fun z => (by cases z), fun _ => p⟩
      have := C.shut ⟨i, false⟩ c h1
      have this : X (N.tl i) = true := this
      rw [h2] at this; cases this
  refine ⟨by simp [C.e], hs, T.shut, ?_⟩
  rw [← T.eq, g _ hs]

/-- one claim more -/
theorem Led.snoc {s : ν} {cl : List (ν × Int)} {as : List Int} {f f' : ι → Int} {fx : ι → Bool} {c : ν × Int} {t : Int} (L : Led N s cl as f) (hc : c.1 ≠ s) (nofx : ∀ i ∈ N.ids, fx i = false)
    (P : Pushed N fx s c.1 c.2 f t f') (h : t = c.2 ∨ ∃ X, Cut N f' fx s c.1 X) : Led N s (cl ++ [c]) (as ++ [t]) f' := by
  have g : ∀ X : ν → Bool, X s = false → HW.gain N f' X = inX X (cl ++ [c]) (as ++ [t]) := fun X hX => by
    rw [P.gain X, L.gain X hX, inX_append _ _ _ _ _ L.len.symm, inX_one]
    simp [hX]
  refine ⟨by simp [L.len], P.feas, g, fun j d a e1 e2 => ?_⟩
  by_cases hj : j < cl.length
  · have h1 : cl[j]? = some d := by rw [List.getElem?_append_left hj] at e1; exact e1
    have h2 : as[j]? = some a := by rw [List.getElem?_append_left (by rw [L.len]; exact hj)] at e2; exact e2
    have t1 : (cl ++ [c]).take (j + 1) = cl.take (j + 1) := List.take_append_of_le_length (by omega)
    have t2 : (as ++ [t]).take (j + 1) = as.take (j + 1) := List.take_append_of_le_length (by rw [L.len]; omega)
    rw [t1, t2]
    exact L.each j d a h1 h2
  · have hj' : j = cl.length := by
      have := (List.getElem?_eq_some_iff.mp e1).1
      simp at this; omega
    subst hj'
    have d1 : c = d := by simpa using e1
    have d2 : t = a := by
      have e2 : (as ++ [t])[as.length]? = some a := by rw [L.len]; exact e2
      simpa using e2
    subst d1 d2
    refine ⟨P.lo, P.hi, fun lt => ?_⟩
    rcases h with h | ⟨X, C⟩
    · omega
    · obtain ⟨w1, w2⟩ := why_of_cut P.feas nofx C g
      refine ⟨fun v => !X v, w1, ?_⟩
      have t1 : (cl ++ [c]).take (cl.length + 1) = cl ++ [c] := List.take_of_length_le (by simp)
      have t2 : (as ++ [t]).take (cl.length + 1) = as ++ [t] := List.take_of_length_le (by simp [L.len])
      rw [t1, t2]
      exact w2
/-- other flows that give the same do as well -/
theorem Led.flow {s : ν} {cl : List (ν × Int)} {as : List Int} {f f' : ι → Int} (L : Led N s cl as f) (F : Feas N f') (g : ∀ X, HW.gain N f' X = HW.gain N f X) : Led N s cl as f' :=
  ⟨L.len, F, fun X h => by rw [g X, L.gain X h], L.each⟩

/-! ### what the amounts are, by all sets that are shut -/
/-- the least that the sets allow the next claim -/
def lgMost (regs : List (List ν × Int)) (found : List (ν × Int)) (c : ν) (size : Int) : Int :=
  regs.foldl (fun most r => if c ∈ r.1 then min most (r.2 - sumL found fun p => if p.1 ∈ r.1 then p.2 else 0) else most) size
def lgRun (regs : List (List ν × Int)) : List (ν × Int) → List (ν × Int) → List (ν × Int)
  | found, [] => found
  | found, c :: r => lgRun regs (found ++ [(c.1, lgMost regs found c.1 c.2)]) r
/-- what is asked of the list of sets -/
structure RegsOk (N : Net ι ν) (s : ν) (cells : List ν) (regs : List (List ν × Int)) : Prop where
  sound : ∀ r ∈ regs, ¬ s ∈ r.1 ∧ Shut N (fun v => decide (v ∈ r.1)) ∧ cap N (fun v => decide (v ∈ r.1)) = r.2
  full : ∀ X : ν → Bool, (∀ v, X v = true → v ∈ cells) → (∃ v, X v = true) → Shut N X → ∃ r ∈ regs, ∀ v, v ∈ r.1 ↔ X v = true
theorem cap_congr {X Y : ν → Bool} (h : ∀ v, X v = Y v) : cap N X = cap N Y := by
  have : X = Y := funext h
  rw [this]
theorem lgMost_spec {regs : List (List ν × Int)} {found : List (ν × Int)} {c : ν} : ∀ (size a : Int),
    a ≤ size → (∀ r ∈ regs, c ∈ r.1 → a ≤ r.2 - sumL found fun p => if p.1 ∈ r.1 then p.2 else 0) → (a = size ∨ ∃ r ∈ regs, c ∈ r.1 ∧ r.2 - (sumL found fun p => if p.1 ∈ r.1 then p.2 else 0) = a) →
    lgMost regs found c size = a := by
  induction regs with
  | nil =>
    intro size a _ _ h
    rcases h with h | ⟨r, hr, _⟩
    · exact h.symm
    · cases hr
  | cons r regs ih =>
    intro size a h1 h2 h3
    show lgMost regs found c (if c ∈ r.1 then min size (r.2 - sumL found fun p => if p.1 ∈ r.1 then p.2 else 0) else size) = a
    by_cases hc : c ∈ r.1
    · rw [if_pos hc]
      have b := h2 r (by simp) hc
      refine ih _ a (by omega) (fun r' hr' => h2 r' (by simp [hr'])) ?_
      rcases h3 with h | ⟨r', hr', hc', e⟩
      · exact .inl (by omega)
      · rcases List.mem_cons.mp hr' with rfl | hr'
        · exact .inl (by omega)
        · exact .inr ⟨r', hr', hc', e⟩
    · rw [if_neg hc]
      refine ih _ a h1 (fun r' hr' => h2 r' (by simp [hr'])) ?_
      rcases h3 with h | ⟨r', hr', hc', e⟩
      · exact .inl h
      · rcases List.mem_cons.mp hr' with rfl | hr'
        · exact absurd hc' hc
        · exact .inr ⟨r', hr', hc', e⟩
theorem found_inX (l : List ν) : ∀ (cl : List (ν × Int)) (as : List Int), sumL ((cl.map (·.1)).zip as) (fun p => if p.1 ∈ l then p.2 else 0) = inX (fun v => decide (v ∈ l)) cl as
  | [], _ => by simp [inX]
  | _ :: _, [] => by simp [inX]
  | c :: cl, a :: as => by
    have ih := found_inX l cl as
    unfold inX at *
    simp only [List.map_cons, List.zip_cons_cons, sumL_cons, ih]
    simp
theorem inX_le {X : ν → Bool} : ∀ {cl : List (ν × Int)} {as : List Int} (k : Nat), (∀ a ∈ as, 0 ≤ a) → inX X (cl.take k) (as.take k) ≤ inX X cl as
  | [], _, k, _ => by simp [inX]
  | _ :: _, [], k, _ => by simp [inX]
  | c :: cl, a :: as, 0, h => by
    have : 0 ≤ inX X (c :: cl) (a :: as) := sumL_nonneg fun p hp => by
      have := (List.of_mem_zip hp).2
      have := h _ this
      split <;> omega
    simpa [inX] using this
  | c :: cl, a :: as, k + 1, h => by
    have ih := inX_le (X := X) (cl := cl) (as := as) k fun x hx => h x (by simp [hx])
    unfold inX at *
    simp only [List.take_succ_cons, List.zip_cons_cons, sumL_cons]
    omega
theorem Led.nonneg {s : ν} {cl : List (ν × Int)} {as : List Int} {f : ι → Int} (L : Led N s cl as f) : ∀ a ∈ as, 0 ≤ a := fun a ha => by
  obtain ⟨j, hj, e⟩ := List.mem_iff_getElem.mp ha
  have h1 : as[j]? = some a := by rw [List.getElem?_eq_getElem hj, e]
  have hc : j < cl.length := by rw [← L.len]; exact hj
  exact (L.each j cl[j] a (List.getElem?_eq_getElem hc) h1).1
/-- all sets that are shut bound what any flow gives -/
theorem Led.bound {s : ν} {cl : List (ν × Int)} {as : List Int} {f : ι → Int} (L : Led N s cl as f) {X : ν → Bool} (hs : X s = false) (S : Shut N X) (k : Nat) : inX X (cl.take k) (as.take k) ≤ cap N X := by
  have h1 := inX_le (X := X) (cl := cl) k L.nonneg
  have h2 := gain_le L.feas S
  rw [L.gain X hs] at h2
  omega
/-- the amounts are what the sets say -/
theorem Led.lg {s : ν} {cl : List (ν × Int)} {as : List Int} {f : ι → Int} {cells : List ν} {regs : List (List ν × Int)} (L : Led N s cl as f) (R : RegsOk N s cells regs) (hcl : ∀ c ∈ cl, c.1 ∈ cells)
    (cover : ∀ X : ν → Bool, X s = false → Shut N X → ∃ Y : ν → Bool, (∀ v, Y v = true → v ∈ cells) ∧ (∀ v ∈ cells, Y v = X v) ∧ Shut N Y ∧ HW.cap N Y = HW.cap N X) :
    lgRun regs [] cl = (cl.map (·.1)).zip as := by
  have run : ∀ (k : Nat), k ≤ cl.length → lgRun regs (((cl.take k).map (·.1)).zip (as.take k)) (cl.drop k) = (cl.map (·.1)).zip as := by
    intro k hk
    induction h : cl.length - k generalizing k with
    | zero =>
      have e : k = cl.length := by omega
      subst e
      rw [List.drop_length, List.take_length, show as.take cl.length = as by rw [← L.len, List.take_length]]
      rfl
    | succ n ih =>
      have hlt : k < cl.length := by omega
      have hla : k < as.length := by rw [L.len]; exact hlt
      rw [List.drop_eq_getElem_cons hlt]
      show lgRun regs (((cl.take k).map (·.1)).zip (as.take k) ++ [(cl[k].1, lgMost regs (((cl.take k).map (·.1)).zip (as.take k)) cl[k].1 cl[k].2)]) (cl.drop (k + 1)) = _
      obtain ⟨e1, e2, e3⟩ := L.each k cl[k] as[k] (List.getElem?_eq_getElem hlt) (List.getElem?_eq_getElem hla)
      have tk : cl.take (k + 1) = cl.take k ++ [cl[k]] := by rw [List.take_add_one, List.getElem?_eq_getElem hlt]; rfl
      have ta : as.take (k + 1) = as.take k ++ [as[k]] := by rw [List.take_add_one, List.getElem?_eq_getElem hla]; rfl
      have ln : (cl.take k).length = (as.take k).length := by rw [List.length_take, List.length_take, L.len]
      have key : lgMost regs (((cl.take k).map (·.1)).zip (as.take k)) cl[k].1 cl[k].2 = as[k] := by
        refine lgMost_spec _ _ e2 (fun r hr hc => ?_) ?_
        · obtain ⟨r1, r2, r3⟩ := R.sound r hr
          have b := L.bound (X := fun v => decide (v ∈ r.1)) (by simpa using r1) r2 (k + 1)
          rw [tk, ta, inX_append _ _ _ _ _ ln, inX_one, if_pos (by simpa using hc), r3] at b
          rw [found_inX]
          omega
        · by_cases lt : as[k] < cl[k].2
          · obtain ⟨X, x1, w⟩ := e3 lt
            obtain ⟨Y, y1, y2, y3, y4⟩ := cover X w.src w.shut
            have hcell : cl[k].1 ∈ cells := hcl _ (List.getElem_mem hlt)
            obtain ⟨r, hr, q⟩ := R.full Y y1 ⟨cl[k].1, by rw [y2 _ hcell, x1]⟩ y3
            have hYr : ∀ v, decide (v ∈ r.1) = Y v := fun v => by
              by_cases z : Y v = true
              · rw [z]; exact decide_eq_true ((q v).mpr z)
              · rw [show Y v = false by simpa using z]; exact decide_eq_false fun m => z ((q v).mp m)
            refine .inr ⟨r, hr, (q _).mpr (by rw [y2 _ hcell, x1]), ?_⟩
            obtain ⟨r1, r2, r3⟩ := R.sound r hr
            rw [← r3, cap_congr hYr, y4, w.cap, tk, ta, inX_append _ _ _ _ _ ln, inX_one, if_pos x1, found_inX]
            have : inX (fun v => decide (v ∈ r.1)) (cl.take k) (as.take k) = inX X (cl.take k) (as.take k) := by
              unfold inX
              refine sumL_congr fun p hp => ?_
              have hm : p.1 ∈ cl := List.mem_of_mem_take (List.of_mem_zip hp).1
              have h1 : decide (p.1.1 ∈ r.1) = X p.1.1 := by rw [hYr, y2 _ (hcl _ hm)]
              simp only [h1]
            rw [this]
            omega
          · exact .inl (by omega)
      rw [key]
      have e : ((cl.take k).map (·.1)).zip (as.take k) ++ [(cl[k].1, as[k])] = ((cl.take (k + 1)).map (·.1)).zip (as.take (k + 1)) := by
        rw [tk, ta, List.map_append, List.zip_append (by rw [List.length_map]; exact ln)]
        rfl
      rw [e]
      exact ih (k + 1) (by omega) (by omega)
  have := run 0 (Nat.zero_le _)
  simpa using this

/-! ### no other flow gives the first claims more -/
theorem inX_eq {X : ν → Bool} : ∀ {cl : List (ν × Int)} {as : List Int} (k : Nat), (∀ a ∈ as, 0 ≤ a) → inX X cl as ≤ inX X (cl.take k) (as.take k) → ∀ (j : Nat) (c : ν × Int) (a : Int), k ≤ j → cl[j]? = some c → as[j]? = some a → X c.1 = true → a = 0
  | [], _, k, _, _, j, c, a, _, e, _, _ => by simp at e
  | _ :: _, [], k, _, _, j, c, a, _, _, e, _ => by simp at e
  | d :: cl, b :: as, 0, h, le, j, c, a, _, e1, e2, hx => by
    have le : inX X (d :: cl) (b :: as) ≤ 0 := by simpa [inX] using le
    have hb := h b (by simp)
    have pos : 0 ≤ inX X cl as := sumL_nonneg fun p hp => by
      have := (List.of_mem_zip hp).2
      have := h p.2 (by simp [this])
      split <;> omega
    have sp : inX X (d :: cl) (b :: as) = (if X d.1 = true then b else 0) + inX X cl as := rfl
    rw [sp] at le
    cases j with
    | zero =>
      have e1 : d = c := by simpa using e1
      have e2 : b = a := by simpa using e2
      subst e1 e2
      rw [if_pos hx] at le
      omega
    | succ j =>
      refine inX_eq (X := X) (cl := cl) (as := as) 0 (fun x hx => h x (by simp [hx])) ?_ j c a (Nat.zero_le _) (by simpa using e1) (by simpa using e2) hx
      have : inX X (List.take 0 cl) (List.take 0 as) = 0 := by simp [inX]
      rw [this]
      split at le <;> omega
  | d :: cl, b :: as, k + 1, h, le, j, c, a, hj, e1, e2, hx => by
    cases j with
    | zero => omega
    | succ j =>
      refine inX_eq (X := X) (cl := cl) (as := as) k (fun x hx => h x (by simp [hx])) ?_ j c a (by omega) (by simpa using e1) (by simpa using e2) hx
      have sp : inX X (d :: cl) (b :: as) = (if X d.1 = true then b else 0) + inX X cl as := rfl
      have sp2 : inX X ((d :: cl).take (k + 1)) ((b :: as).take (k + 1)) = (if X d.1 = true then b else 0) + inX X (cl.take k) (as.take k) := rfl
      rw [sp, sp2] at le
      omega
theorem sum_split {X : ν → Bool} : ∀ {cl : List (ν × Int)} {as bs : List Int}, as.length = cl.length → bs.length = cl.length → (∀ (j : Nat) (c : ν × Int) (a b : Int), cl[j]? = some c → as[j]? = some a → bs[j]? = some b → X c.1 = false → b ≤ a) →
    inX X cl bs ≤ inX X cl as → bs.sum ≤ as.sum
  | [], [], [], _, _, _, _ => by simp
  | [], _ :: _, _, h, _, _, _ => by simp at h
  | [], _, _ :: _, _, h, _, _ => by simp at h
  | _ :: _, [], _, h, _, _, _ => by simp at h
  | _ :: _, _, [], _, h, _, _ => by simp at h
  | c :: cl, a :: as, b :: bs, h1, h2, h3, h4 => by
    have out : ∀ {cl : List (ν × Int)} {as bs : List Int}, as.length = cl.length → bs.length = cl.length → (∀ (j : Nat) (c : ν × Int) (a b : Int), cl[j]? = some c → as[j]? = some a → bs[j]? = some b → X c.1 = false → b ≤ a) →
        bs.sum - inX X cl bs ≤ as.sum - inX X cl as := by
      intro cl
      induction cl with
      | nil =>
        intro as bs l1 l2 _
        have e1 : as = [] := List.length_eq_zero_iff.mp l1
        have e2 : bs = [] := List.length_eq_zero_iff.mp l2
        subst e1 e2
        exact Int.le_refl _
      | cons c cl ih =>
        intro as bs l1 l2 h
        match as, bs, l1, l2 with
        | a :: as, b :: bs, l1, l2 =>
          have i := ih (as := as) (bs := bs) (by simpa using l1) (by simpa using l2) fun j d x y q1 q2 q3 q4 => h (j + 1) d x y (by simpa using q1) (by simpa using q2) (by simpa using q3) q4
          have s1 : inX X (c :: cl) (b :: bs) = (if X c.1 = true then b else 0) + inX X cl bs := rfl
          have s2 : inX X (c :: cl) (a :: as) = (if X c.1 = true then a else 0) + inX X cl as := rfl
          rw [s1, s2, List.sum_cons, List.sum_cons]
          by_cases hx : X c.1 = true
          · rw [if_pos hx, if_pos hx]; omega
          · rw [if_neg hx, if_neg hx]
            have := h 0 c a b rfl rfl rfl (by simpa using hx)
            omega
    have := out h1 h2 h3
    omega
/-- the first k claims get no more by any other flow -/
theorem Led.most {s : ν} {cl : List (ν × Int)} {as bs : List Int} {f g : ι → Int} (L : Led N s cl as f) (G : Feas N g) (lenb : bs.length = cl.length) (gg : ∀ X : ν → Bool, X s = false → inX X cl bs ≤ HW.gain N g X)
    (hb : ∀ (j : Nat) (c : ν × Int) (b : Int), cl[j]? = some c → bs[j]? = some b → 0 ≤ b ∧ b ≤ c.2) (k : Nat) : (bs.take k).sum ≤ (as.take k).sum := by
  -- the sets of the short claims ahead of k, together
  let Sh : (ν → Bool) → Nat → Prop := fun X j => j < k ∧ ∃ (c : ν × Int) (a : Int), cl[j]? = some c ∧ as[j]? = some a ∧ a < c.2 ∧ X c.1 = true ∧ Why N s X (cl.take (j + 1)) (as.take (j + 1))
  have tight : ∀ X j, Sh X j → Tight N f X ∧ inX X cl as ≤ inX X (cl.take (j + 1)) (as.take (j + 1)) := by
    rintro X j ⟨_, c, a, e1, e2, lt, hx, w⟩
    have h1 := inX_le (X := X) (cl := cl) (j + 1) L.nonneg
    have h2 := gain_le L.feas w.shut
    rw [L.gain X w.src] at h2
    have h3 := w.cap
    exact ⟨tight_of L.feas w.shut (by rw [L.gain X w.src]; omega), by omega⟩
  let U : ν → Bool := fun v => @decide (∃ X j, Sh X j ∧ X v = true) (Classical.propDecidable _)
  have hU : ∀ v, U v = true ↔ ∃ X j, Sh X j ∧ X v = true := fun v => ⟨fun h => @of_decide_eq_true _ (Classical.propDecidable _) h, fun h => @decide_eq_true _ (Classical.propDecidable _) h⟩
  have nU : ∀ v, U v = false → ∀ X j, Sh X j → X v = false := fun v h X j hs => by
    cases e : X v with
    | false => rfl
    | true => rw [(hU v).mpr ⟨X, j, hs, e⟩] at h; cases h
  have Us : U s = false := by
    cases e : U s with
    | false => rfl
    | true =>
      obtain ⟨X, j, hs, hx⟩ := (hU s).mp e
      obtain ⟨_, c, a, _, _, _, _, w⟩ := hs
      rw [w.src] at hx; cases hx
  have T : Tight N f U := by
    intro i hi
    refine ⟨fun en => ?_, fun ht hh => ?_⟩
    · obtain ⟨X, j, hs, hx⟩ := (hU _).mp en.1
      exact ((tight X j hs).1 i hi).1 ⟨hx, nU _ en.2 X j hs⟩
    · obtain ⟨X, j, hs, hx⟩ := (hU _).mp ht
      exact ((tight X j hs).1 i hi).2 hx (nU _ hh X j hs)
  have capU : cap N U = inX U cl as := by rw [← T.eq, L.gain U Us]
  -- claims from k on with a node in U get nothing
  have later : ∀ (j : Nat) (c : ν × Int) (a : Int), k ≤ j → cl[j]? = some c → as[j]? = some a → U c.1 = true → a = 0 := fun j c a hj e1 e2 hu => by
    obtain ⟨X, j', hs, hx⟩ := (hU _).mp hu
    have := hs.1
    exact inX_eq (j' + 1) L.nonneg (tight X j' hs).2 j c a (by omega) e1 e2 hx
  have capK : inX U cl as = inX U (cl.take k) (as.take k) := by
    have sp : cl = cl.take k ++ cl.drop k := (List.take_append_drop k cl).symm
    have sp2 : as = as.take k ++ as.drop k := (List.take_append_drop k as).symm
    have e : inX U (cl.take k ++ cl.drop k) (as.take k ++ as.drop k) = inX U (cl.take k) (as.take k) + inX U (cl.drop k) (as.drop k) := inX_append _ _ _ _ _ (by rw [List.length_take, List.length_take, L.len])
    rw [← sp, ← sp2] at e
    have z : inX U (cl.drop k) (as.drop k) = 0 := sumL_zero fun p hp => by
      obtain ⟨n, hn, en⟩ := List.mem_iff_getElem.mp hp
      have hn' : n < (cl.drop k).length ∧ n < (as.drop k).length := by
        rw [List.length_zip] at hn; omega
      rw [List.getElem_zip] at en
      split
      · rename_i hx
        have g1 : cl[k + n]? = some p.1 := by rw [← List.getElem?_drop, List.getElem?_eq_getElem hn'.1]; rw [← en]
        have g2 : as[k + n]? = some p.2 := by rw [← List.getElem?_drop, List.getElem?_eq_getElem hn'.2]; rw [← en]
        exact later (k + n) p.1 p.2 (by omega) g1 g2 hx
      · rfl
    omega
  have b0 : ∀ b ∈ bs, 0 ≤ b := fun b hm => by
    obtain ⟨j, hj, e⟩ := List.mem_iff_getElem.mp hm
    have hc : j < cl.length := by rw [← lenb]; exact hj
    exact (hb j cl[j] b (List.getElem?_eq_getElem hc) (by rw [List.getElem?_eq_getElem hj, e])).1
  have fin : inX U (cl.take k) (bs.take k) ≤ inX U (cl.take k) (as.take k) := by
    have h1 := inX_le (X := U) (cl := cl) k b0
    have h2 := gain_le G T.shut
    have h3 := gg U Us
    omega
  refine sum_split (X := U) (cl := cl.take k) (by rw [List.length_take, List.length_take, L.len]) (by rw [List.length_take, List.length_take, lenb]) (fun j c a b e1 e2 e3 hu => ?_) fin
  have jk : j < k := by
    have := (List.getElem?_eq_some_iff.mp e1).1
    rw [List.length_take] at this
    omega
  rw [List.getElem?_take_of_lt jk] at e1 e2 e3
  obtain ⟨p1, p2, p3⟩ := L.each j c a e1 e2
  have q := hb j c b e1 e3
  by_cases lt : a < c.2
  · obtain ⟨X, hx, w⟩ := p3 lt
    rw [(hU _).mpr ⟨X, j, ⟨jk, c, a, e1, e2, lt, hx, w⟩, hx⟩] at hu
    cases hu
  · omega
theorem sums_eq : ∀ {as bs : List Int}, as.length = bs.length → (∀ k, (as.take k).sum = (bs.take k).sum) → as = bs
  | [], [], _, _ => rfl
  | [], _ :: _, h, _ => by simp at h
  | _ :: _, [], h, _ => by simp at h
  | a :: as, b :: bs, h, e => by
    have e1 := e 1
    simp at e1
    subst e1
    rw [sums_eq (as := as) (bs := bs) (by simpa using h) fun k => by
      have := e (k + 1)
      simp at this
      omega]
/-- they are one -/
theorem Led.unique {s : ν} {cl : List (ν × Int)} {as bs : List Int} {f g : ι → Int} (L : Led N s cl as f) (M : Led N s cl bs g) : as = bs := by
  have h1 := L.most M.feas M.len (fun X hX => by rw [M.gain X hX]; exact Int.le_refl _) fun j c b e1 e2 => ⟨(M.each j c b e1 e2).1, (M.each j c b e1 e2).2.1⟩
  have h2 := M.most L.feas L.len (fun X hX => by rw [L.gain X hX]; exact Int.le_refl _) fun j c b e1 e2 => ⟨(L.each j c b e1 e2).1, (L.each j c b e1 e2).2.1⟩
  refine sums_eq (by rw [L.len, M.len]) fun k => ?_
  have := h1 k
  have := h2 k
  omega
/-- claims that come later than k get nothing in X: the sum is that of the first -/
theorem inX_first {X : ν → Bool} : ∀ {cl : List (ν × Int)} {as : List Int} (k : Nat), (∀ (j : Nat) (c : ν × Int) (a : Int), k ≤ j → cl[j]? = some c → as[j]? = some a → X c.1 = true → a = 0) → inX X cl as = inX X (cl.take k) (as.take k)
  | [], _, k, _ => by simp [inX]
  | _ :: _, [], k, _ => by simp [inX]
  | c :: cl, a :: as, 0, h => by
    have ih := inX_first (X := X) (cl := cl) (as := as) 0 fun j c a hj e1 e2 hx => h (j + 1) c a (Nat.zero_le _) (by simpa using e1) (by simpa using e2) hx
    have sp : inX X (c :: cl) (a :: as) = (if X c.1 = true then a else 0) + inX X cl as := rfl
    have z : inX X (List.take 0 cl) (List.take 0 as) = 0 := by simp [inX]
    have z2 : inX X (List.take 0 (c :: cl)) (List.take 0 (a :: as)) = 0 := by simp [inX]
    rw [sp, ih, z, z2]
    split
    · rename_i hx
      rw [h 0 c a (Nat.le_refl _) rfl rfl hx]; rfl
    · rfl
  | c :: cl, a :: as, k + 1, h => by
    have ih := inX_first (X := X) (cl := cl) (as := as) k fun j c a hj e1 e2 hx => h (j + 1) c a (by omega) (by simpa using e1) (by simpa using e2) hx
    have sp : inX X (c :: cl) (a :: as) = (if X c.1 = true then a else 0) + inX X cl as := rfl
    have sp2 : inX X ((c :: cl).take (k + 1)) ((a :: as).take (k + 1)) = (if X c.1 = true then a else 0) + inX X (cl.take k) (as.take k) := rfl
    rw [sp, sp2, ih]
end
end HW
end
section
/-! HWFlow: a way or a cut; leading water exists; the search in breadth by its invariants. -/
namespace HW
section
variable {ι ν : Type} [DecidableEq ι] [DecidableEq ν] {N : Net ι ν}

theorem spots_cons (e : ν) (st : Step ι) (r : List (Step ι)) : spots N e (st :: r) = e :: spots N (N.out st) r := rfl
theorem Way.nil {f : ι → Int} {fx : ι → Bool} (b : ν) : Way N f fx b b [] := ⟨rfl, by simp [spots], by simp⟩
theorem Way.step {f : ι → Int} {fx : ι → Bool} {b : ν} {st : Step ι} {path : List (Step ι)} (W : Way N f fx b (N.out st) path) (c : Can N f fx st) (h : ¬ N.into st ∈ spots N (N.out st) path) : Way N f fx b (N.into st) (st :: path) :=
  ⟨⟨rfl, W.chain⟩, by rw [spots_cons]; exact List.nodup_cons.mpr ⟨h, W.nd⟩, fun x hx => by
    rcases List.mem_cons.mp hx with rfl | hx
    · exact c
    · exact W.can x hx⟩
/-- a node on a way is reached by a part of it -/
theorem Way.part {f : ι → Int} {fx : ι → Bool} {b v : ν} : ∀ {path : List (Step ι)} {e : ν}, Way N f fx b e path → v ∈ spots N e path → ∃ p, Way N f fx b v p
  | [], e, W, h => by
    have : v = e := by simpa [spots] using h
    subst this
    exact ⟨_, W⟩
  | st :: r, e, W, h => by
    rw [spots_cons] at h
    rcases List.mem_cons.mp h with rfl | h
    · exact ⟨_, W⟩
    · obtain ⟨c1, c2⟩ := W.chain
      have nd := W.nd
      rw [spots_cons] at nd
      exact Way.part (path := r) ⟨c2, (List.nodup_cons.mp nd).2, fun x hx => W.can x (by simp [hx])⟩ h
theorem way_or_cut (N : Net ι ν) (f : ι → Int) (fx : ι → Bool) (b e : ν) : (∃ path, Way N f fx b e path) ∨ ∃ X, Cut N f fx b e X := by
  by_cases h : ∃ path, Way N f fx b e path
  · exact .inl h
  · let X : ν → Bool := fun v => @decide (∃ path, Way N f fx b v path) (Classical.propDecidable _)
    have hX : ∀ v, X v = true ↔ ∃ path, Way N f fx b v path := fun v => ⟨fun q => @of_decide_eq_true _ (Classical.propDecidable _) q, fun q => @decide_eq_true _ (Classical.propDecidable _) q⟩
    refine .inr ⟨X, (hX b).mpr ⟨[], Way.nil b⟩, ?_, fun st c q => ?_⟩
    · cases z : X e with
      | false => rfl
      | true => exact absurd ((hX e).mp z) h
    · obtain ⟨path, W⟩ := (hX _).mp q
      refine (hX _).mpr ?_
      by_cases m : N.into st ∈ spots N (N.out st) path
      · exact W.part m
      · exact ⟨_, W.step c m⟩
theorem Can.one {f : ι → Int} {fx : ι → Bool} {st : Step ι} (F : Feas N f) (c : Can N f fx st) : Allows N f 1 st := by
  obtain ⟨hi, _, h1, h2⟩ := c
  refine ⟨fun u k e => ?_, fun u => h2 u⟩
  have le := (F st.i hi).2 k e
  have ne := h1 u
  rw [e] at ne
  have : k ≠ f st.i := fun z => ne (by rw [z])
  omega
theorem push_more (ndI : N.ids.Nodup) {fx : ι → Bool} {b e : ν} {most : Int} {f : ι → Int} : ∀ (n : Nat) (t : Int) (f1 : ι → Int), Pushed N fx b e most f t f1 → (most - t).toNat = n →
    ∃ t' f', Pushed N fx b e most f t' f' ∧ (t' = most ∨ ∃ X, Cut N f' fx b e X)
  | 0, t, f1, P, h => ⟨t, f1, P, .inl (by have := P.hi; omega)⟩
  | n + 1, t, f1, P, h => by
    rcases way_or_cut N f1 fx b e with ⟨path, W⟩ | C
    · exact push_more ndI n (t + 1) _ (P.more ndI W (by omega) (by omega) fun st hs => (W.can st hs).one P.feas) (by omega)
    · exact ⟨t, f1, P, .inr C⟩
theorem push_exists (ndI : N.ids.Nodup) (fx : ι → Bool) (b e : ν) {most : Int} {f : ι → Int} (F : Feas N f) (h : 0 ≤ most) : ∃ t f', Pushed N fx b e most f t f' ∧ (t = most ∨ ∃ X, Cut N f' fx b e X) :=
  push_more ndI _ 0 f (Pushed.start F h) rfl
/-- greatest deliveries exist -/
theorem led_exists (ndI : N.ids.Nodup) {s : ν} {f0 : ι → Int} (F : Feas N f0) (g : ∀ X : ν → Bool, X s = false → gain N f0 X = 0) : ∀ (cl : List (ν × Int)), (∀ c ∈ cl, c.1 ≠ s ∧ 0 ≤ c.2) → ∃ as f, Led N s cl as f := by
  intro cl
  induction h : cl.length generalizing cl with
  | zero =>
    intro _
    have : cl = [] := List.length_eq_zero_iff.mp h
    subst this
    exact ⟨[], f0, Led.nil F g⟩
  | succ n ih =>
    intro hc
    have ne : cl ≠ [] := fun z => by rw [z] at h; cases h
    have e : cl.dropLast ++ [cl.getLast ne] = cl := List.dropLast_concat_getLast ne
    obtain ⟨as, f, L⟩ := ih cl.dropLast (by rw [List.length_dropLast, h]; rfl) fun c hm => hc c (List.dropLast_subset _ hm)
    obtain ⟨q1, q2⟩ := hc _ (List.getLast_mem ne)
    obtain ⟨t, f', P, d⟩ := push_exists ndI (fun _ => false) s (cl.getLast ne).1 L.feas q2
    have := L.snoc q1 (fun _ _ => rfl) P d
    rw [e] at this
    exact ⟨_, _, this⟩

/-! ### the search -/
/-- the steps from a node on, in the order of the arcs -/
def stepsOf (N : Net ι ν) (f : ι → Int) (fx : ι → Bool) (p : ν) : List (Step ι) := N.ids.flatMap fun i =>
  (if N.tl i = p ∧ (fx i = false ∧ N.most i ≠ some (f i)) then [⟨i, true⟩] else []) ++ (if N.hd i = p ∧ (fx i = false ∧ 0 < f i) then [⟨i, false⟩] else [])
theorem mem_stepsOf {f : ι → Int} {fx : ι → Bool} {p : ν} {st : Step ι} : st ∈ stepsOf N f fx p ↔ Can N f fx st ∧ N.out st = p := by
  unfold stepsOf
  rw [List.mem_flatMap]
  constructor
  · rintro ⟨i, hi, h⟩
    rcases List.mem_append.mp h with h | h
    · split at h
      · rename_i c
        have e : st = ⟨i, true⟩ := by simpa using h
        subst e
        exact ⟨⟨hi, c.2.1, fun _ => c.2.2, fun z => nomatch z⟩, c.1⟩
      · cases h
    · split at h
      · rename_i c
        have e : st = ⟨i, false⟩ := by simpa using h
        subst e
        exact ⟨⟨hi, c.2.1, fun z => (nomatch z), fun _ => c.2.2⟩, c.1⟩
      · cases h
  · rintro ⟨⟨hi, h1, h2, h3⟩, h4⟩
    obtain ⟨i, up⟩ := st
    refine ⟨i, hi, List.mem_append.mpr ?_⟩
    cases up with
    | true =>
      have h4 : N.tl i = p := h4
      have h2' : N.most i ≠ some (f i) := h2 rfl
      exact .inl (by rw [if_pos ⟨h4, h1, h2'⟩]; simp)
    | false =>
      have h4 : N.hd i = p := h4
      have h3' : 0 < f i := h3 rfl
      exact .inr (by rw [if_pos ⟨h4, h1, h3'⟩]; simp)

abbrev Rch (ι ν : Type) := List (ν × Option (ν × Step ι))
abbrev keys (R : Rch ι ν) : List ν := R.map (·.1)
/-- what was reached, and from where -/
structure Tree (N : Net ι ν) (f : ι → Int) (fx : ι → Bool) (b : ν) (R : Rch ι ν) : Prop where
  first : R[0]? = some (b, none)
  nd : (keys R).Nodup
  par : ∀ (k : Nat) q o, R[k]? = some (q, o) → k = 0 ∨ ∃ st j, o = some (N.out st, st) ∧ j < k ∧ (∃ o', R[j]? = some (N.out st, o')) ∧ Can N f fx st ∧ N.into st = q
theorem key_at {R : Rch ι ν} {v : ν} (h : v ∈ keys R) : ∃ (k : Nat) (o : Option (ν × Step ι)), R[k]? = some (v, o) := by
  obtain ⟨p, hp, e⟩ := List.mem_map.mp h
  obtain ⟨k, hk, ek⟩ := List.mem_iff_getElem.mp hp
  exact ⟨k, p.2, by rw [List.getElem?_eq_getElem hk, ek, ← e]⟩
theorem at_key {R : Rch ι ν} {v : ν} {k : Nat} {o : Option (ν × Step ι)} (h : R[k]? = some (v, o)) : v ∈ keys R := List.mem_map.mpr ⟨_, List.mem_of_getElem? h, rfl⟩
theorem Tree.start {f : ι → Int} {fx : ι → Bool} (b : ν) : Tree N f fx b [(b, none)] :=
  ⟨rfl, by simp [keys], fun k q o h => by
    cases k with
    | zero => exact .inl rfl
    | succ k => simp at h⟩
theorem nodup_snoc {α : Type} {l : List α} {a : α} (h : l.Nodup) (ha : ¬ a ∈ l) : (l ++ [a]).Nodup := by
  rw [List.nodup_append]
  refine ⟨h, by simp, fun x hx y hy e => ?_⟩
  have : y = a := by simpa using hy
  subst this
  subst e
  exact ha hx
theorem Tree.snoc {f : ι → Int} {fx : ι → Bool} {b : ν} {R : Rch ι ν} (T : Tree N f fx b R) {st : Step ι} (c : Can N f fx st) (hp : N.out st ∈ keys R) (hn : ¬ N.into st ∈ keys R) : Tree N f fx b (R ++ [(N.into st, some (N.out st, st))]) := by
  have h0 : 0 < R.length := (List.getElem?_eq_some_iff.mp T.first).1
  refine ⟨by rw [List.getElem?_append_left h0]; exact T.first, ?_, fun k q o h => ?_⟩
  · show (List.map (fun p : ν × Option (ν × Step ι) => p.1) (R ++ [_])).Nodup
    rw [List.map_append]
    exact nodup_snoc T.nd hn
  · by_cases hk : k < R.length
    · rw [List.getElem?_append_left hk] at h
      rcases T.par k q o h with z | ⟨st', j, e, hj, ⟨o', ho⟩, c', i'⟩
      · exact .inl z
      · exact .inr ⟨st', j, e, hj, ⟨o', by rw [List.getElem?_append_left (by omega)]; exact ho⟩, c', i'⟩
    · have hk' : k = R.length := by
        have := (List.getElem?_eq_some_iff.mp h).1
        simp at this; omega
      subst hk'
      have e : (N.into st, some (N.out st, st)) = (q, o) := by simpa using h
      obtain ⟨j, o', ho⟩ := key_at hp
      have hj : j < R.length := (List.getElem?_eq_some_iff.mp ho).1
      cases e
      exact .inr ⟨st, j, rfl, hj, ⟨o', by rw [List.getElem?_append_left hj]; exact ho⟩, c, rfl⟩
/-- the way back through what was reached -/
def Back (N : Net ι ν) (R : Rch ι ν) : ν → List (Step ι) → Prop
  | q, [] => (q, none) ∈ R
  | q, st :: r => (q, some (N.out st, st)) ∈ R ∧ Back N R (N.out st) r
theorem Tree.way {f : ι → Int} {fx : ι → Bool} {b : ν} {R : Rch ι ν} (T : Tree N f fx b R) : ∀ (n k : Nat), k ≤ n → ∀ q o, R[k]? = some (q, o) → ∃ path, Way N f fx b q path ∧ Back N R q path ∧ ∀ v ∈ spots N q path, ∃ j o', j ≤ k ∧ R[j]? = some (v, o') := by
  intro n
  induction n with
  | zero =>
    intro k hk q o h
    have : k = 0 := by omega
    subst this
    rw [T.first] at h
    cases h
    exact ⟨[], Way.nil b, List.mem_of_getElem? T.first, fun v hv => by
      have : v = b := by simpa [spots] using hv
      subst this
      exact ⟨0, none, Nat.le_refl _, T.first⟩⟩
  | succ n ih =>
    intro k hk q o h
    rcases T.par k q o h with z | ⟨st, j, e, hj, ⟨o', ho⟩, c, hi⟩
    · exact ih k (by omega) q o h
    · obtain ⟨path, W, B, S⟩ := ih j (by omega) _ _ ho
      subst hi
      refine ⟨st :: path, W.step c fun m => ?_, ⟨by rw [← e]; exact List.mem_of_getElem? h, B⟩, fun v hv => ?_⟩
      · obtain ⟨j', o2, hj', h2⟩ := S _ m
        have a1 : (keys R)[k]? = some (N.into st) := by rw [List.getElem?_map, h]; rfl
        have a2 : (keys R)[j']? = some (N.into st) := by rw [List.getElem?_map, h2]; rfl
        obtain ⟨l1, e1⟩ := List.getElem?_eq_some_iff.mp a1
        obtain ⟨l2, e2⟩ := List.getElem?_eq_some_iff.mp a2
        have : k = j' := (List.getElem_inj T.nd).mp (e1.trans e2.symm)
        omega
      · rw [spots_cons] at hv
        rcases List.mem_cons.mp hv with rfl | hv
        · exact ⟨k, o, Nat.le_refl _, h⟩
        · obtain ⟨j', o2, hj', h2⟩ := S v hv
          exact ⟨j', o2, by omega, h2⟩
theorem Tree.bound {f : ι → Int} {fx : ι → Bool} {b : ν} {R : Rch ι ν} (T : Tree N f fx b R) : R.length ≤ 2 * N.ids.length + 1 := by
  have sub : keys R ⊆ b :: (N.ids.map N.tl ++ N.ids.map N.hd) := by
    intro v hv
    obtain ⟨k, o, h⟩ := key_at hv
    rcases T.par k v o h with z | ⟨st, j, _, _, _, c, e⟩
    · subst z
      rw [T.first] at h
      cases h
      exact List.mem_cons_self
    · refine List.mem_cons_of_mem _ (List.mem_append.mpr ?_)
      rw [← e]
      unfold Net.into
      split
      · exact .inr (List.mem_map.mpr ⟨_, c.1, rfl⟩)
      · exact .inl (List.mem_map.mpr ⟨_, c.1, rfl⟩)
  have := T.nd.length_le_of_subset sub
  simp [keys] at this
  omega
/-- between two places -/
structure Search (N : Net ι ν) (f : ι → Int) (fx : ι → Bool) (b e : ν) (R : Rch ι ν) (todo : List ν) : Prop where
  tree : Tree N f fx b R
  sub : ∀ v ∈ todo, v ∈ keys R
  closed : ∀ p ∈ keys R, ¬ p ∈ todo → p ≠ e ∧ ∀ st ∈ stepsOf N f fx p, N.into st ∈ keys R
/-- at a place p, whose steps dn were looked at -/
structure Mid (N : Net ι ν) (f : ι → Int) (fx : ι → Bool) (b e : ν) (R : Rch ι ν) (todo : List ν) (p : ν) (dn : List (Step ι)) : Prop where
  tree : Tree N f fx b R
  at_ : p ∈ keys R
  ne : p ≠ e
  sub : ∀ v ∈ todo, v ∈ keys R
  closed : ∀ q ∈ keys R, q ≠ p → ¬ q ∈ todo → q ≠ e ∧ ∀ st ∈ stepsOf N f fx q, N.into st ∈ keys R
  dn : ∀ st ∈ dn, N.into st ∈ keys R
theorem Search.start {f : ι → Int} {fx : ι → Bool} (b e : ν) : Search N f fx b e [(b, none)] [b] :=
  ⟨Tree.start b, fun v h => by simpa [keys] using h, fun p h n => absurd (by simpa [keys] using h) n⟩
theorem Search.pop {f : ι → Int} {fx : ι → Bool} {b e p : ν} {R : Rch ι ν} {rest : List ν} (S : Search N f fx b e R (p :: rest)) (h : p ≠ e) : Mid N f fx b e R rest p [] :=
  ⟨S.tree, S.sub p (by simp), h, fun v hv => S.sub v (by simp [hv]), fun q hq ne hn => S.closed q hq (by simp [ne, hn]), by simp⟩
theorem Search.hit {f : ι → Int} {fx : ι → Bool} {b e : ν} {R : Rch ι ν} {rest : List ν} (S : Search N f fx b e R (e :: rest)) : ∃ path, Way N f fx b e path ∧ Back N R e path := by
  obtain ⟨k, o, h⟩ := key_at (S.sub e (by simp))
  obtain ⟨path, W, B, _⟩ := S.tree.way k k (Nat.le_refl _) e o h
  exact ⟨path, W, B⟩
theorem Mid.old {f : ι → Int} {fx : ι → Bool} {b e p : ν} {R : Rch ι ν} {todo : List ν} {dn : List (Step ι)} (S : Mid N f fx b e R todo p dn) {st : Step ι} (h : N.into st ∈ keys R) : Mid N f fx b e R todo p (dn ++ [st]) :=
  ⟨S.tree, S.at_, S.ne, S.sub, S.closed, fun x hx => by
    rcases List.mem_append.mp hx with hx | hx
    · exact S.dn x hx
    · have : x = st := by simpa using hx
      rw [this]; exact h⟩
theorem Mid.new {f : ι → Int} {fx : ι → Bool} {b e p : ν} {R : Rch ι ν} {todo : List ν} {dn : List (Step ι)} (S : Mid N f fx b e R todo p dn) {st : Step ι} (hs : st ∈ stepsOf N f fx p) (h : ¬ N.into st ∈ keys R) :
    Mid N f fx b e (R ++ [(N.into st, some (p, st))]) (todo ++ [N.into st]) p (dn ++ [st]) := by
  obtain ⟨c, o⟩ := mem_stepsOf.mp hs
  have sub : ∀ v, v ∈ keys R → v ∈ keys (R ++ [(N.into st, some (p, st))]) := fun v hv => by
    show v ∈ List.map (fun p : ν × Option (ν × Step ι) => p.1) (R ++ [_])
    rw [List.map_append]
    exact List.mem_append_left _ hv
  have new : N.into st ∈ keys (R ++ [(N.into st, some (p, st))]) := by
    show N.into st ∈ List.map (fun p : ν × Option (ν × Step ι) => p.1) (R ++ [_])
    rw [List.map_append]
    exact List.mem_append_right _ (by simp)
  refine ⟨by rw [← o]; exact S.tree.snoc c (by rw [o]; exact S.at_) h, sub _ S.at_, S.ne, fun v hv => ?_, fun q hq ne hn => ?_, fun x hx => ?_⟩
  · rcases List.mem_append.mp hv with hv | hv
    · exact sub _ (S.sub v hv)
    · have : v = N.into st := by simpa using hv
      rw [this]; exact new
  · have hq' : q ∈ keys R := by
      have hq : q ∈ List.map (fun p : ν × Option (ν × Step ι) => p.1) (R ++ [_]) := hq
      rw [List.map_append] at hq
      rcases List.mem_append.mp hq with hq | hq
      · exact hq
      · have : q = N.into st := by simpa using hq
        exact absurd (by rw [this]; simp) hn
    obtain ⟨h1, h2⟩ := S.closed q hq' ne fun m => hn (List.mem_append_left _ m)
    exact ⟨h1, fun x hx => sub _ (h2 x hx)⟩
  · rcases List.mem_append.mp hx with hx | hx
    · exact sub _ (S.dn x hx)
    · have : x = st := by simpa using hx
      rw [this]; exact new
theorem Mid.done {f : ι → Int} {fx : ι → Bool} {b e p : ν} {R : Rch ι ν} {todo : List ν} (S : Mid N f fx b e R todo p (stepsOf N f fx p)) : Search N f fx b e R todo :=
  ⟨S.tree, S.sub, fun q hq hn => by
    by_cases h : q = p
    · subst h
      exact ⟨S.ne, S.dn⟩
    · exact S.closed q hq h hn⟩
theorem Search.none {f : ι → Int} {fx : ι → Bool} {b e : ν} {R : Rch ι ν} (S : Search N f fx b e R []) : ∃ X, Cut N f fx b e X := by
  refine ⟨fun v => decide (v ∈ keys R), decide_eq_true (at_key S.tree.first), ?_, fun st c h => ?_⟩
  · cases z : decide (e ∈ keys R) with
    | false => rfl
    | true => exact absurd rfl (S.closed e (of_decide_eq_true z) (by simp)).1
  · have h : N.out st ∈ keys R := of_decide_eq_true h
    exact decide_eq_true ((S.closed _ h (by simp)).2 st (mem_stepsOf.mpr ⟨c, rfl⟩))
end
end HW
end
section
/-! HWBasin: a basin's network, its cells, what comes to a cell. -/
namespace HW
inductive Node where
  | src
  | cell (s m : Nat)
  deriving DecidableEq
inductive AId where
  | src (s m : Nat)
  | sto (s m : Nat)
  | rel (s m : Nat)
  deriving DecidableEq
structure Site where
  nxt : Option Nat
  tr : Nat
  reach : Option Int
  room : Int
  held : Int
  infl : List Int
structure Basin where
  M : Nat
  S : List Site
structure Right where
  site : Nat
  dem : List Int
def Site.none : Site := ⟨Option.none, 0, Option.none, 0, 0, []⟩
def Basin.n (B : Basin) : Nat := B.S.length
def Basin.site (B : Basin) (s : Nat) : Site := B.S.getD s Site.none
def Basin.infl (B : Basin) (s m : Nat) : Int := (B.site s).infl.getD m 0
def Basin.supply (B : Basin) (s m : Nat) : Int := B.infl s m + (if m = 0 then (B.site s).held else 0)
def Basin.cells (B : Basin) : List (Nat × Nat) := (List.range B.M).flatMap fun m => (List.range B.n).map fun s => (s, m)
def Basin.letTo (B : Basin) (s m : Nat) : Option (Nat × Nat) := match (B.site s).nxt with
  | Option.none => Option.none
  | some t => if m + (B.site s).tr < B.M then some (t, m + (B.site s).tr) else Option.none
def Basin.ids (B : Basin) : List AId := B.cells.flatMap fun c =>
  AId.src c.1 c.2 :: ((if c.2 + 1 < B.M then [AId.sto c.1 c.2] else []) ++ (if (B.letTo c.1 c.2).isSome = true then [AId.rel c.1 c.2] else []))
def toNode : Option (Nat × Nat) → Node
  | Option.none => Node.src
  | some c => Node.cell c.1 c.2
def Basin.net (B : Basin) : Net AId Node where
  ids := B.ids
  tl := fun i => match i with
    | .src _ _ => .src
    | .sto s m => .cell s m
    | .rel s m => .cell s m
  hd := fun i => match i with
    | .src s m => .cell s m
    | .sto s m => .cell s (m + 1)
    | .rel s m => toNode (B.letTo s m)
  most := fun i => match i with
    | .src s m => some (B.supply s m)
    | .sto s _ => some (B.site s).room
    | .rel s _ => (B.site s).reach
/-- what is asked of a basin -/
structure Basin.Ok (B : Basin) : Prop where
  nxt : ∀ s t, s < B.n → (B.site s).nxt = some t → s < t ∧ t < B.n
  infl : ∀ s, s < B.n → (B.site s).infl.length = B.M
  i0 : ∀ s m, 0 ≤ B.infl s m
  held : ∀ s, 0 ≤ (B.site s).held
  room : ∀ s, 0 ≤ (B.site s).room
  reach : ∀ s c, (B.site s).reach = some c → 0 ≤ c
structure RightsOk (B : Basin) (R : List Right) : Prop where
  site : ∀ r ∈ R, r.site < B.n
  len : ∀ r ∈ R, r.dem.length = B.M
  d0 : ∀ r ∈ R, ∀ d ∈ r.dem, 0 ≤ d
section
variable {B : Basin}
theorem mem_cells {s m : Nat} : (s, m) ∈ B.cells ↔ s < B.n ∧ m < B.M := by
  unfold Basin.cells
  simp only [List.mem_flatMap, List.mem_map, List.mem_range, Prod.mk.injEq]
  constructor
  · rintro ⟨a, ha, b, hb, rfl, rfl⟩
    exact ⟨hb, ha⟩
  · rintro ⟨h1, h2⟩
    exact ⟨m, h2, s, h1, rfl, rfl⟩
theorem nodup_flatMap {α β : Type} {k : α → List β} (h2 : ∀ a b x, x ∈ k a → x ∈ k b → a = b) : ∀ {l : List α}, l.Nodup → (∀ a ∈ l, (k a).Nodup) → (l.flatMap k).Nodup
  | [], _, _ => List.nodup_nil
  | a :: l, nd, h1 => by
    obtain ⟨n1, n2⟩ := List.nodup_cons.mp nd
    rw [List.flatMap_cons, List.nodup_append]
    refine ⟨h1 a (by simp), nodup_flatMap h2 n2 fun b hb => h1 b (by simp [hb]), fun x hx y hy e => ?_⟩
    subst e
    obtain ⟨b, hb, hy⟩ := List.mem_flatMap.mp hy
    have := h2 a b x hx hy
    subst this
    exact n1 hb
theorem nodup_mapi {α β : Type} {k : α → β} (h : ∀ a b, k a = k b → a = b) : ∀ {l : List α}, l.Nodup → (l.map k).Nodup
  | [], _ => List.nodup_nil
  | a :: l, nd => by
    obtain ⟨n1, n2⟩ := List.nodup_cons.mp nd
    rw [List.map_cons]
    refine List.nodup_cons.mpr ⟨fun m => ?_, nodup_mapi h n2⟩
    obtain ⟨b, hb, e⟩ := List.mem_map.mp m
    have := h _ _ e
    subst this
    exact n1 hb
theorem cells_nodup : B.cells.Nodup := by
  refine nodup_flatMap (fun a b x hx hy => ?_) List.nodup_range fun m _ => nodup_mapi (fun a b e => by simpa using e) List.nodup_range
  obtain ⟨_, _, e1⟩ := List.mem_map.mp hx
  obtain ⟨_, _, e2⟩ := List.mem_map.mp hy
  rw [← e1] at e2
  simpa using (congrArg Prod.snd e2).symm
theorem mem_ids {i : AId} : i ∈ B.ids ↔ match i with
    | .src s m => s < B.n ∧ m < B.M
    | .sto s m => s < B.n ∧ m + 1 < B.M
    | .rel s m => s < B.n ∧ m < B.M ∧ (B.letTo s m).isSome = true := by
  unfold Basin.ids
  rw [List.mem_flatMap]
  cases i with
  | src s m =>
    simp only [List.mem_cons, List.mem_append]
    constructor
    · rintro ⟨⟨a, b⟩, hc, h⟩
      rcases h with h | h | h
      · cases h; exact mem_cells.mp hc
      · split at h <;> simp at h
      · split at h <;> simp at h
    · intro h
      exact ⟨(s, m), mem_cells.mpr h, .inl rfl⟩
  | sto s m =>
    simp only [List.mem_cons, List.mem_append]
    constructor
    · rintro ⟨⟨a, b⟩, hc, h⟩
      have hc := mem_cells.mp hc
      rcases h with h | h | h
      · cases h
      · split at h
        · rename_i lt
          have lt : b + 1 < B.M := lt
          have h : AId.sto s m = AId.sto a b := by simpa using h
          cases h
          exact ⟨hc.1, lt⟩
        · cases h
      · split at h <;> simp at h
    · rintro ⟨h1, h2⟩
      exact ⟨(s, m), mem_cells.mpr ⟨h1, by omega⟩, .inr (.inl (by rw [if_pos (show m + 1 < B.M from h2)]; simp))⟩
  | rel s m =>
    simp only [List.mem_cons, List.mem_append]
    constructor
    · rintro ⟨⟨a, b⟩, hc, h⟩
      have hc := mem_cells.mp hc
      rcases h with h | h | h
      · cases h
      · split at h <;> simp at h
      · split at h
        · rename_i lt
          have h : AId.rel s m = AId.rel a b := by simpa using h
          cases h
          exact ⟨hc.1, hc.2, lt⟩
        · cases h
    · rintro ⟨h1, h2, h3⟩
      exact ⟨(s, m), mem_cells.mpr ⟨h1, h2⟩, .inr (.inr (by rw [if_pos (show (B.letTo s m).isSome = true from h3)]; simp))⟩
theorem ids_nodup' : B.ids.Nodup := by
  have at_ : ∀ (c : Nat × Nat) (i : AId), i ∈ (AId.src c.1 c.2 :: ((if c.2 + 1 < B.M then [AId.sto c.1 c.2] else []) ++ (if (B.letTo c.1 c.2).isSome = true then [AId.rel c.1 c.2] else []))) → i = .src c.1 c.2 ∨ i = .sto c.1 c.2 ∨ i = .rel c.1 c.2 := by
    intro c i h
    rcases List.mem_cons.mp h with h | h
    · exact .inl h
    · rcases List.mem_append.mp h with h | h
      · split at h
        · exact .inr (.inl (by simpa using h))
        · cases h
      · split at h
        · exact .inr (.inr (by simpa using h))
        · cases h
  refine nodup_flatMap (fun a b x hx hy => ?_) cells_nodup fun c _ => ?_
  · obtain ⟨a1, a2⟩ := a
    obtain ⟨b1, b2⟩ := b
    rcases at_ _ _ hx with rfl | rfl | rfl <;> rcases at_ _ _ hy with e | e | e <;> cases e <;> rfl
  · refine List.nodup_cons.mpr ⟨fun h => ?_, ?_⟩
    · rcases List.mem_append.mp h with h | h <;> split at h <;> simp at h
    · rw [List.nodup_append]
      refine ⟨by split <;> simp, by split <;> simp, fun x hx y hy e => ?_⟩
      subst e
      split at hx
      · split at hy
        · have h1 : x = .sto c.1 c.2 := by simpa using hx
          have h2 : x = .rel c.1 c.2 := by simpa using hy
          rw [h1] at h2; cases h2
        · cases hy
      · cases hx
theorem net_nodup : B.net.ids.Nodup := ids_nodup'
theorem sum_ids (g : AId → Int) : sumL B.ids g = sumL B.cells fun c => g (.src c.1 c.2) + (if c.2 + 1 < B.M then g (.sto c.1 c.2) else 0) + (if (B.letTo c.1 c.2).isSome = true then g (.rel c.1 c.2) else 0) := by
  unfold Basin.ids
  rw [sumL_flatMap]
  refine sumL_congr fun c _ => ?_
  rw [sumL_cons, sumL_append]
  split <;> split <;> simp <;> omega
theorem sum_cells (g : Nat × Nat → Int) : sumL B.cells g = sumL (List.range B.n) fun s => sumL (List.range B.M) fun m => g (s, m) := by
  unfold Basin.cells
  rw [sumL_flatMap, sumL_swap]
  refine sumL_congr fun m _ => ?_
  rw [sumL_map]
theorem letTo_eq {s m : Nat} {c : Nat × Nat} : B.letTo s m = some c ↔ (B.site s).nxt = some c.1 ∧ m + (B.site s).tr = c.2 ∧ c.2 < B.M := by
  unfold Basin.letTo
  cases h : (B.site s).nxt with
  | none => simp
  | some t =>
    simp only
    obtain ⟨a, b⟩ := c
    by_cases q : m + (B.site s).tr < B.M
    · rw [if_pos q]
      simp only [Option.some.injEq, Prod.mk.injEq]
      constructor
      · rintro ⟨rfl, rfl⟩; exact ⟨rfl, rfl, q⟩
      · rintro ⟨rfl, rfl, _⟩; exact ⟨rfl, rfl⟩
    · rw [if_neg q]
      simp only [Option.some.injEq, reduceCtorEq, false_iff]
      rintro ⟨_, rfl, h2⟩
      exact q h2
/-- the cells that let down to one, summed -/
theorem sum_from {s m : Nat} (hm : m < B.M) (g : Nat → Nat → Int) : sumL B.cells (fun c => if B.letTo c.1 c.2 = some (s, m) then g c.1 c.2 else 0) =
    sumL (List.range B.n) fun j => if (B.site j).nxt = some s ∧ (B.site j).tr ≤ m then g j (m - (B.site j).tr) else 0 := by
  rw [sum_cells]
  refine sumL_congr fun j _ => ?_
  by_cases h : (B.site j).nxt = some s ∧ (B.site j).tr ≤ m
  · rw [if_pos h]
    have e : (fun m' => if B.letTo (j, m').1 (j, m').2 = some (s, m) then g (j, m').1 (j, m').2 else 0) = fun m' => if m' = m - (B.site j).tr then g j m' else 0 := by
      funext m'
      by_cases q : m' = m - (B.site j).tr
      · rw [if_pos q, if_pos (letTo_eq.mpr ⟨h.1, by show m' + (B.site j).tr = m; omega, hm⟩)]
      · rw [if_neg q, if_neg fun z => q (by have : m' + (B.site j).tr = m := (letTo_eq.mp z).2.1; omega)]
    rw [e, sumL_delta List.nodup_range, if_pos (List.mem_range.mpr (by omega))]
  · rw [if_neg h]
    refine sumL_zero fun m' _ => ?_
    rw [if_neg fun z => h ⟨(letTo_eq.mp z).1, by have : m' + (B.site j).tr = m := (letTo_eq.mp z).2.1; omega⟩]
theorem sum_cell_delta {s m : Nat} (hs : s < B.n) (hm : m < B.M) (g : Nat × Nat → Int) : sumL B.cells (fun c => if c = (s, m) then g c else 0) = g (s, m) := by
  rw [sumL_delta cells_nodup, if_pos (mem_cells.mpr ⟨hs, hm⟩)]
/-- the arcs to a cell -/
theorem sum_hd {s m : Nat} (hs : s < B.n) (hm : m < B.M) (g : AId → Int) : sumL B.ids (fun i => if B.net.hd i = .cell s m then g i else 0) =
    g (.src s m) + (if m = 0 then 0 else g (.sto s (m - 1))) + sumL (List.range B.n) fun j => if (B.site j).nxt = some s ∧ (B.site j).tr ≤ m then g (.rel j (m - (B.site j).tr)) else 0 := by
  rw [sum_ids, sumL_add, sumL_add, ← sum_from hm fun j m' => g (.rel j m')]
  congr 1
  · congr 1
    · rw [← sum_cell_delta hs hm fun c => g (.src c.1 c.2)]
      refine sumL_congr fun c _ => ?_
      have : (B.net.hd (.src c.1 c.2) = .cell s m) ↔ c = (s, m) := by
        obtain ⟨a, b⟩ := c
        show Node.cell a b = Node.cell s m ↔ _
        simp
      simp only [this]
    · by_cases h : m = 0
      · rw [if_pos h]
        refine sumL_zero fun c _ => ?_
        have : ¬ B.net.hd (.sto c.1 c.2) = .cell s m := by
          show ¬ Node.cell c.1 (c.2 + 1) = Node.cell s m
          simp; omega
        rw [if_neg this]; simp
      · rw [if_neg h, ← sum_cell_delta (m := m - 1) hs (by omega) fun c => g (.sto c.1 c.2)]
        refine sumL_congr fun c _ => ?_
        by_cases e : c = (s, m - 1)
        · subst e
          rw [if_pos (show m - 1 + 1 < B.M by omega), if_pos (show B.net.hd (.sto s (m - 1)) = Node.cell s m by show Node.cell s (m - 1 + 1) = Node.cell s m; congr 1; omega), if_pos rfl]
        · have : ¬ B.net.hd (.sto c.1 c.2) = .cell s m := by
            show ¬ Node.cell c.1 (c.2 + 1) = Node.cell s m
            intro z
            simp only [Node.cell.injEq] at z
            exact e (by obtain ⟨a, b⟩ := c; simp only at z; simp; omega)
          rw [if_neg this, if_neg e]; simp
  · refine sumL_congr fun c _ => ?_
    by_cases e : B.letTo c.1 c.2 = some (s, m)
    · rw [if_pos e, if_pos (by rw [e]; rfl), if_pos (show B.net.hd (.rel c.1 c.2) = _ by show toNode (B.letTo c.1 c.2) = _; rw [e]; rfl)]
    · rw [if_neg e]
      by_cases q : (B.letTo c.1 c.2).isSome = true
      · rw [if_pos q, if_neg fun z => ?_]
        have z : toNode (B.letTo c.1 c.2) = .cell s m := z
        obtain ⟨d, hd⟩ := Option.isSome_iff_exists.mp q
        rw [hd] at z e
        simp only [toNode, Node.cell.injEq] at z
        exact e (by obtain ⟨a, b⟩ := d; simp only at z; simp [z])
      · rw [if_neg q]
/-- the arcs from a cell -/
theorem sum_tl {s m : Nat} (hs : s < B.n) (hm : m < B.M) (g : AId → Int) : sumL B.ids (fun i => if B.net.tl i = .cell s m then g i else 0) =
    (if m + 1 < B.M then g (.sto s m) else 0) + (if (B.letTo s m).isSome = true then g (.rel s m) else 0) := by
  rw [sum_ids, ← sum_cell_delta hs hm fun c => (if c.2 + 1 < B.M then g (.sto c.1 c.2) else 0) + (if (B.letTo c.1 c.2).isSome = true then g (.rel c.1 c.2) else 0)]
  refine sumL_congr fun c _ => ?_
  obtain ⟨a, b⟩ := c
  have h0 : ¬ B.net.tl (.src a b) = .cell s m := by show ¬ Node.src = _; simp
  have h1 : (B.net.tl (.sto a b) = .cell s m) ↔ (a, b) = (s, m) := by show Node.cell a b = _ ↔ _; simp
  have h2 : (B.net.tl (.rel a b) = .cell s m) ↔ (a, b) = (s, m) := by show Node.cell a b = _ ↔ _; simp
  simp only [h0, h1, h2, if_false]
  by_cases e : (a, b) = (s, m)
  · simp only [e, if_true]; omega
  · simp only [e, if_false, ite_self]; rfl
theorem ends_cells (ok : B.Ok) {i : AId} (hi : i ∈ B.ids) : (∃ s m, s < B.n ∧ m < B.M ∧ B.net.hd i = .cell s m) ∧ (B.net.tl i = .src ∨ ∃ s m, s < B.n ∧ m < B.M ∧ B.net.tl i = .cell s m) := by
  have h := mem_ids.mp hi
  cases i with
  | src s m => exact ⟨⟨s, m, h.1, h.2, rfl⟩, .inl rfl⟩
  | sto s m =>
    have h : s < B.n ∧ m + 1 < B.M := h
    exact ⟨⟨s, m + 1, h.1, h.2, rfl⟩, .inr ⟨s, m, h.1, by omega, rfl⟩⟩
  | rel s m =>
    have h : s < B.n ∧ m < B.M ∧ (B.letTo s m).isSome = true := h
    obtain ⟨c, hc⟩ := Option.isSome_iff_exists.mp h.2.2
    obtain ⟨e1, e2, e3⟩ := letTo_eq.mp hc
    refine ⟨⟨c.1, c.2, (ok.nxt s _ h.1 e1).2, e3, ?_⟩, .inr ⟨s, m, h.1, h.2.1, rfl⟩⟩
    show toNode (B.letTo s m) = _
    rw [hc]; rfl
/-- a sum over arcs by the cells that they lead to -/
theorem sum_by_hd (ok : B.Ok) (X : Node → Bool) (g : AId → Int) : sumL B.ids (fun i => if X (B.net.hd i) = true then g i else 0) = sumL B.cells fun c => if X (.cell c.1 c.2) = true then sumL B.ids (fun i => if B.net.hd i = .cell c.1 c.2 then g i else 0) else 0 := by
  have e : (fun c : Nat × Nat => if X (.cell c.1 c.2) = true then sumL B.ids (fun i => if B.net.hd i = .cell c.1 c.2 then g i else 0) else 0) = fun c => sumL B.ids fun i => if X (.cell c.1 c.2) = true then (if B.net.hd i = .cell c.1 c.2 then g i else 0) else 0 := by
    funext c; rw [sumL_ite]
  rw [e, sumL_swap]
  refine sumL_congr fun i hi => ?_
  obtain ⟨⟨s, m, hs, hm, h⟩, _⟩ := ends_cells ok hi
  have e2 : (fun c : Nat × Nat => if X (.cell c.1 c.2) = true then (if B.net.hd i = .cell c.1 c.2 then g i else 0) else 0) = fun c => if c = (s, m) then (if X (.cell c.1 c.2) = true then g i else 0) else 0 := by
    funext c
    obtain ⟨a, b⟩ := c
    by_cases q : (a, b) = (s, m)
    · rw [if_pos q]; cases q; rw [if_pos (show B.net.hd i = .cell (s, m).1 (s, m).2 from h)]
    · rw [if_neg q, if_neg (show ¬ B.net.hd i = .cell (a, b).1 (a, b).2 from fun z => q (by rw [h] at z; simp only [Node.cell.injEq] at z; simp [z])), ite_self]
  rw [e2, sum_cell_delta hs hm fun c => if X (.cell c.1 c.2) = true then g i else 0, h]
theorem sum_by_tl (ok : B.Ok) (X : Node → Bool) (hX : X .src = false) (g : AId → Int) : sumL B.ids (fun i => if X (B.net.tl i) = true then g i else 0) = sumL B.cells fun c => if X (.cell c.1 c.2) = true then sumL B.ids (fun i => if B.net.tl i = .cell c.1 c.2 then g i else 0) else 0 := by
  have e : (fun c : Nat × Nat => if X (.cell c.1 c.2) = true then sumL B.ids (fun i => if B.net.tl i = .cell c.1 c.2 then g i else 0) else 0) = fun c => sumL B.ids fun i => if X (.cell c.1 c.2) = true then (if B.net.tl i = .cell c.1 c.2 then g i else 0) else 0 := by
    funext c; rw [sumL_ite]
  rw [e, sumL_swap]
  refine sumL_congr fun i hi => ?_
  rcases (ends_cells ok hi).2 with h | ⟨s, m, hs, hm, h⟩
  · rw [h, hX, if_neg (by simp)]
    refine (sumL_zero fun c _ => ?_).symm
    rw [if_neg (show ¬ Node.src = .cell c.1 c.2 by simp), ite_self]
  · have e2 : (fun c : Nat × Nat => if X (.cell c.1 c.2) = true then (if B.net.tl i = .cell c.1 c.2 then g i else 0) else 0) = fun c => if c = (s, m) then (if X (.cell c.1 c.2) = true then g i else 0) else 0 := by
      funext c
      obtain ⟨a, b⟩ := c
      by_cases q : (a, b) = (s, m)
      · rw [if_pos q]; cases q; rw [if_pos (show B.net.tl i = .cell (s, m).1 (s, m).2 from h)]
      · rw [if_neg q, if_neg (show ¬ B.net.tl i = .cell (a, b).1 (a, b).2 from fun z => q (by rw [h] at z; simp only [Node.cell.injEq] at z; simp [z])), ite_self]
    rw [e2, sum_cell_delta hs hm fun c => if X (.cell c.1 c.2) = true then g i else 0, h]
/-- what comes to a cell by flows, and is not led on -/
def Basin.stay (B : Basin) (f : AId → Int) (s m : Nat) : Int :=
  f (.src s m) + (if m = 0 then 0 else f (.sto s (m - 1))) + sumL (List.range B.n) (fun j => if (B.site j).nxt = some s ∧ (B.site j).tr ≤ m then f (.rel j (m - (B.site j).tr)) else 0)
    - ((if m + 1 < B.M then f (.sto s m) else 0) + (if (B.letTo s m).isSome = true then f (.rel s m) else 0))
theorem gain_cells (ok : B.Ok) (f : AId → Int) (X : Node → Bool) (hX : X .src = false) : gain B.net f X = sumL B.cells fun c => if X (.cell c.1 c.2) = true then B.stay f c.1 c.2 else 0 := by
  show sumL B.ids (fun i => (if X (B.net.hd i) = true then f i else 0) - (if X (B.net.tl i) = true then f i else 0)) = _
  rw [sumL_sub, sum_by_hd ok, sum_by_tl ok X hX, ← sumL_sub]
  refine sumL_congr fun c hc => ?_
  obtain ⟨h1, h2⟩ := mem_cells.mp (show (c.1, c.2) ∈ B.cells from hc)
  by_cases q : X (.cell c.1 c.2) = true
  · rw [if_pos q, if_pos q, if_pos q, sum_hd h1 h2, sum_tl h1 h2]; rfl
  · rw [if_neg q, if_neg q, if_neg q]; rfl
theorem gain_at (ok : B.Ok) (f : AId → Int) {s m : Nat} (hs : s < B.n) (hm : m < B.M) : gain B.net f (fun v => decide (v = .cell s m)) = B.stay f s m := by
  rw [gain_cells ok f _ (by simp), ← sum_cell_delta hs hm fun c => B.stay f c.1 c.2]
  refine sumL_congr fun c _ => ?_
  obtain ⟨a, b⟩ := c
  have : (decide (Node.cell a b = Node.cell s m) = true) ↔ (a, b) = (s, m) := by simp
  simp only [this]
end
end HW
end
section
/-! HWClaims: the claims of a basin in order, what flows give them, right plans. -/
namespace HW
/-! ### lists made of equal parts -/
theorem flat_get {α : Type} (p : Nat) (hp : 0 < p) (g : Nat → Nat → α) : ∀ (a i : Nat), ((List.range a).flatMap fun r => (List.range p).map (g r))[i]? = if i < a * p then some (g (i / p) (i % p)) else none
  | 0, i => by simp
  | a + 1, i => by
    rw [List.range_succ, List.flatMap_append]
    have len : ∀ a, ((List.range a).flatMap fun r => (List.range p).map (g r)).length = a * p := fun a => by
      induction a with
      | zero => simp
      | succ a ih => rw [List.range_succ, List.flatMap_append, List.length_append, ih]; simp [Nat.succ_mul]
    by_cases h : i < a * p
    · rw [List.getElem?_append_left (by rw [len]; exact h), flat_get p hp g a i, if_pos h, if_pos (by rw [Nat.succ_mul]; omega)]
    · rw [List.getElem?_append_right (by rw [len]; omega), len]
      simp only [List.flatMap_cons, List.flatMap_nil, List.append_nil]
      by_cases h2 : i < (a + 1) * p
      · have q : i - a * p < p := by rw [Nat.succ_mul] at h2; omega
        have e1 : i / p = a := by
          refine Nat.div_eq_of_lt_le (by omega) h2
        have e2 : i % p = i - a * p := by
          have := Nat.div_add_mod i p
          rw [e1, Nat.mul_comm] at this
          omega
        rw [if_pos h2, List.getElem?_map, List.getElem?_range q, e1, e2]
        rfl
      · rw [if_neg h2, List.getElem?_eq_none]
        rw [List.length_map, List.length_range]
        rw [Nat.succ_mul] at h2; omega
theorem flat_len {α : Type} (p : Nat) (g : Nat → Nat → α) (a : Nat) : ((List.range a).flatMap fun r => (List.range p).map (g r)).length = a * p := by
  induction a with
  | zero => simp
  | succ a ih => rw [List.range_succ, List.flatMap_append, List.length_append, ih]; simp [Nat.succ_mul]
theorem flat_get0 {α : Type} (p : Nat) (g : Nat → Nat → α) (a r m : Nat) (hr : r < a) (hm : m < p) : ((List.range a).flatMap fun r => (List.range p).map (g r))[r * p + m]? = some (g r m) := by
  have h1 : r * p + m < a * p := by
    have : (r + 1) * p ≤ a * p := Nat.mul_le_mul_right _ hr
    rw [Nat.succ_mul] at this
    omega
  rw [flat_get p (by omega), if_pos h1]
  have e1 : (r * p + m) / p = r := by
    rw [Nat.add_comm, Nat.add_mul_div_right _ _ (by omega), Nat.div_eq_of_lt hm, Nat.zero_add]
  have e2 : (r * p + m) % p = m := by
    rw [Nat.add_comm, Nat.add_mul_mod_self_right, Nat.mod_eq_of_lt hm]
  rw [e1, e2]
/-- rights' part, then rooms' part -/
def parts {α : Type} (a p n : Nat) (g : Nat → Nat → α) (l : Nat → α) : List α := ((List.range a).flatMap fun r => (List.range p).map (g r)) ++ (List.range n).map l
section
variable {α : Type} {a p n : Nat} {g : Nat → Nat → α} {l : Nat → α}
theorem parts_len : (parts a p n g l).length = a * p + n := by unfold parts; rw [List.length_append, flat_len]; simp
theorem parts_get (hp : 0 < p) (i : Nat) : (parts a p n g l)[i]? = if i < a * p then some (g (i / p) (i % p)) else if i < a * p + n then some (l (i - a * p)) else none := by
  unfold parts
  by_cases h : i < a * p
  · rw [if_pos h, List.getElem?_append_left (by rw [flat_len]; exact h), flat_get p hp, if_pos h]
  · rw [if_neg h, List.getElem?_append_right (by rw [flat_len]; omega), flat_len, List.getElem?_map]
    by_cases h2 : i < a * p + n
    · rw [if_pos h2, List.getElem?_range (by omega)]; rfl
    · rw [if_neg h2, List.getElem?_eq_none (by simp; omega)]; rfl
theorem parts_right {r m : Nat} (hr : r < a) (hm : m < p) : (parts a p n g l)[r * p + m]? = some (g r m) := by
  unfold parts
  have h1 : r * p + m < a * p := by
    have : (r + 1) * p ≤ a * p := Nat.mul_le_mul_right _ hr
    rw [Nat.succ_mul] at this
    omega
  rw [List.getElem?_append_left (by rw [flat_len]; exact h1), flat_get0 p g a r m hr hm]
theorem parts_room {s : Nat} (hs : s < n) : (parts a p n g l)[a * p + s]? = some (l s) := by
  unfold parts
  rw [List.getElem?_append_right (by rw [flat_len]; omega), flat_len, Nat.add_sub_cancel_left, List.getElem?_map, List.getElem?_range hs]
  rfl
theorem parts_congr {g' : Nat → Nat → α} {l' : Nat → α} (h1 : ∀ r m, r < a → m < p → g r m = g' r m) (h2 : ∀ s, s < n → l s = l' s) : parts a p n g l = parts a p n g' l' := by
  unfold parts
  congr 1
  · have : ∀ (k : List Nat), (∀ r ∈ k, r < a) → (k.flatMap fun r => (List.range p).map (g r)) = k.flatMap fun r => (List.range p).map (g' r) := by
      intro k
      induction k with
      | nil => intro _; rfl
      | cons r k ih =>
        intro h
        rw [List.flatMap_cons, List.flatMap_cons, ih fun x hx => h x (by simp [hx])]
        congr 1
        exact List.map_congr_left fun m hm => h1 r m (h r (by simp)) (List.mem_range.mp hm)
    exact this _ fun r hr => List.mem_range.mp hr
  · exact List.map_congr_left fun s hs => h2 s (List.mem_range.mp hs)
end
theorem zip_flatMap {α β γ : Type} {f : α → List β} {g : α → List γ} : ∀ {l : List α}, (∀ a ∈ l, (f a).length = (g a).length) → (l.flatMap f).zip (l.flatMap g) = l.flatMap fun a => (f a).zip (g a)
  | [], _ => rfl
  | a :: l, h => by
    rw [List.flatMap_cons, List.flatMap_cons, List.flatMap_cons, List.zip_append (h a (by simp)), zip_flatMap fun x hx => h x (by simp [hx])]
theorem zip_maps {α β γ : Type} (f : α → β) (g : α → γ) : ∀ l : List α, (l.map f).zip (l.map g) = l.map fun a => (f a, g a)
  | [] => rfl
  | a :: l => by rw [List.map_cons, List.map_cons, List.zip_cons_cons, zip_maps f g l, List.map_cons]
theorem zip_parts {α β : Type} {a p n : Nat} {g : Nat → Nat → α} {l : Nat → α} {g' : Nat → Nat → β} {l' : Nat → β} : (parts a p n g l).zip (parts a p n g' l') = parts a p n (fun r m => (g r m, g' r m)) fun s => (l s, l' s) := by
  unfold parts
  rw [List.zip_append (by rw [flat_len, flat_len]), zip_flatMap (fun _ _ => by simp), zip_maps]
  congr 1
  have : (fun a => (List.map (g a) (List.range p)).zip (List.map (g' a) (List.range p))) = fun r => (List.range p).map fun m => (g r m, g' r m) := by
    funext r; rw [zip_maps]
  rw [this]
theorem sum_parts {α : Type} {a p n : Nat} {g : Nat → Nat → α} {l : Nat → α} (f : α → Int) : sumL (parts a p n g l) f = sumL (List.range a) (fun r => sumL (List.range p) fun m => f (g r m)) + sumL (List.range n) fun s => f (l s) := by
  unfold parts
  rw [sumL_append, sumL_flatMap, sumL_map]
  congr 1
  refine sumL_congr fun r _ => ?_
  rw [sumL_map]

/-! ### claims -/
def rt (R : List Right) (r : Nat) : Right := R.getD r ⟨0, []⟩
def claims (B : Basin) (R : List Right) : List (Node × Int) := parts R.length B.M B.n (fun r m => (Node.cell (rt R r).site m, (rt R r).dem.getD m 0)) fun s => (Node.cell s (B.M - 1), (B.site s).room)
def amts (B : Basin) (R : List Right) (d : Nat → Nat → Int) (last : Nat → Int) : List Int := parts R.length B.M B.n d last
def dOf (B : Basin) (as : List Int) (r m : Nat) : Int := as.getD (r * B.M + m) 0
def lastOf (B : Basin) (R : List Right) (as : List Int) (s : Nat) : Int := as.getD (R.length * B.M + s) 0
section
variable {B : Basin} {R : List Right}
theorem claims_len : (claims B R).length = R.length * B.M + B.n := parts_len
theorem amts_len {d : Nat → Nat → Int} {last : Nat → Int} : (amts B R d last).length = R.length * B.M + B.n := parts_len
theorem amts_of {as : List Int} (hM : 0 < B.M) (h : as.length = (claims B R).length) : as = amts B R (dOf B as) (lastOf B R as) := by
  rw [claims_len] at h
  refine List.ext_getElem? fun i => ?_
  unfold amts
  rw [parts_get hM]
  split
  · rename_i lt
    rw [List.getElem?_eq_getElem (by omega)]
    congr 1
    unfold dOf
    rw [show i / B.M * B.M + i % B.M = i by rw [Nat.mul_comm]; exact Nat.div_add_mod i B.M, List.getD_eq_getElem?_getD, List.getElem?_eq_getElem (by omega)]
    rfl
  · split
    · rename_i h1 h2
      rw [List.getElem?_eq_getElem (by omega)]
      congr 1
      unfold lastOf
      rw [show R.length * B.M + (i - R.length * B.M) = i by omega, List.getD_eq_getElem?_getD, List.getElem?_eq_getElem (by omega)]
      rfl
    · rw [List.getElem?_eq_none (by omega)]
theorem dOf_amts {d : Nat → Nat → Int} {last : Nat → Int} {r m : Nat} (hr : r < R.length) (hm : m < B.M) : dOf B (amts B R d last) r m = d r m := by
  unfold dOf amts
  rw [List.getD_eq_getElem?_getD, parts_right hr hm]; rfl
theorem lastOf_amts {d : Nat → Nat → Int} {last : Nat → Int} {s : Nat} (hs : s < B.n) : lastOf B R (amts B R d last) s = last s := by
  unfold lastOf amts
  rw [List.getD_eq_getElem?_getD, parts_room hs]; rfl
theorem rt_mem {r : Nat} (hr : r < R.length) : rt R r ∈ R := by
  unfold rt
  rw [List.getD_eq_getElem?_getD, List.getElem?_eq_getElem hr]
  exact List.getElem_mem hr
/-- what is given at a cell -/
def at_ (B : Basin) (R : List Right) (d : Nat → Nat → Int) (last : Nat → Int) (s m : Nat) : Int :=
  sumL (List.range R.length) (fun r => if (rt R r).site = s then d r m else 0) + (if m + 1 = B.M then last s else 0)
theorem inX_amts (X : Node → Bool) (d : Nat → Nat → Int) (last : Nat → Int) : inX X (claims B R) (amts B R d last) =
    sumL (List.range R.length) (fun r => sumL (List.range B.M) fun m => if X (.cell (rt R r).site m) = true then d r m else 0) + sumL (List.range B.n) fun s => if X (.cell s (B.M - 1)) = true then last s else 0 := by
  unfold inX claims amts
  rw [zip_parts, sum_parts]
theorem inX_cells (ok : RightsOk B R) (hM : 0 < B.M) (X : Node → Bool) (d : Nat → Nat → Int) (last : Nat → Int) : inX X (claims B R) (amts B R d last) = sumL B.cells fun c => if X (.cell c.1 c.2) = true then at_ B R d last c.1 c.2 else 0 := by
  rw [inX_amts]
  have e : (fun c : Nat × Nat => if X (.cell c.1 c.2) = true then at_ B R d last c.1 c.2 else 0) = fun c =>
      sumL (List.range R.length) (fun r => if (rt R r).site = c.1 then (if X (.cell c.1 c.2) = true then d r c.2 else 0) else 0) + (if c.2 + 1 = B.M then (if X (.cell c.1 c.2) = true then last c.1 else 0) else 0) := by
    funext c
    unfold at_
    by_cases q : X (.cell c.1 c.2) = true
    · simp only [q, if_true]
    · simp only [q, if_false, ite_self, Bool.false_eq_true]
      rw [sumL_zero fun _ _ => rfl]; rfl
  rw [e, sumL_add]
  congr 1
  · rw [sumL_swap B.cells (List.range R.length)]
    refine sumL_congr fun r hr => ?_
    have hr : r < R.length := List.mem_range.mp hr
    have hs : (rt R r).site < B.n := ok.site _ (rt_mem hr)
    rw [sum_cells]
    have e2 : (fun s => sumL (List.range B.M) fun m => if (rt R r).site = (s, m).1 then (if X (.cell (s, m).1 (s, m).2) = true then d r (s, m).2 else 0) else 0) =
        fun s => if s = (rt R r).site then sumL (List.range B.M) (fun m => if X (.cell s m) = true then d r m else 0) else 0 := by
      funext s
      by_cases q : (rt R r).site = s
      · rw [if_pos q.symm]; simp only [q, if_true]
      · rw [if_neg fun z => q z.symm]; simp only [q, if_false]; exact sumL_zero fun _ _ => rfl
    rw [e2, sumL_delta List.nodup_range, if_pos (List.mem_range.mpr hs)]
  · rw [sum_cells]
    refine sumL_congr fun s _ => ?_
    have e2 : (fun m => if (s, m).2 + 1 = B.M then (if X (.cell (s, m).1 (s, m).2) = true then last (s, m).1 else 0) else 0) = fun m => if m = B.M - 1 then (if X (.cell s m) = true then last s else 0) else 0 := by
      funext m
      by_cases q : m = B.M - 1
      · rw [if_pos q, if_pos (show m + 1 = B.M by omega)]
      · rw [if_neg q, if_neg (show ¬ m + 1 = B.M by omega)]
    rw [e2, sumL_delta List.nodup_range, if_pos (List.mem_range.mpr (by omega))]
/-- flows that leave at each cell what is given there -/
theorem gain_of_stay (ok : B.Ok) (okR : RightsOk B R) (hM : 0 < B.M) {f : AId → Int} {d : Nat → Nat → Int} {last : Nat → Int} (h : ∀ s m, s < B.n → m < B.M → B.stay f s m = at_ B R d last s m) (X : Node → Bool) (hX : X .src = false) :
    gain B.net f X = inX X (claims B R) (amts B R d last) := by
  rw [gain_cells ok f X hX, inX_cells okR hM]
  refine sumL_congr fun c hc => ?_
  obtain ⟨h1, h2⟩ := mem_cells.mp (show (c.1, c.2) ∈ B.cells from hc)
  rw [h c.1 c.2 h1 h2]
theorem stay_of_gain (ok : B.Ok) (okR : RightsOk B R) (hM : 0 < B.M) {f : AId → Int} {d : Nat → Nat → Int} {last : Nat → Int} (h : ∀ X : Node → Bool, X .src = false → gain B.net f X = inX X (claims B R) (amts B R d last)) {s m : Nat} (hs : s < B.n) (hm : m < B.M) :
    B.stay f s m = at_ B R d last s m := by
  rw [← gain_at ok f hs hm, h _ (by simp), inX_cells okR hM, ← sum_cell_delta hs hm fun c => at_ B R d last c.1 c.2]
  refine sumL_congr fun c _ => ?_
  obtain ⟨a, b⟩ := c
  have : (decide (Node.cell a b = Node.cell s m) = true) ↔ (a, b) = (s, m) := by simp
  simp only [this]

/-! ### plans -/
def relOf (B : Basin) (f : AId → Int) (s m : Nat) : Int := if (B.letTo s m).isSome = true then f (.rel s m) else 0
def stoOf (B : Basin) (R : List Right) (as : List Int) (f : AId → Int) (s m : Nat) : Int := if m + 1 < B.M then f (.sto s m) else lastOf B R as s
/-- what comes down to a cell -/
def Basin.down (B : Basin) (rel : Nat → Nat → Int) (s m : Nat) : Int := sumL (List.range B.n) fun j => if (B.site j).nxt = some s ∧ (B.site j).tr ≤ m then rel j (m - (B.site j).tr) else 0
def Basin.recv (B : Basin) (rel sto : Nat → Nat → Int) (s m : Nat) : Int := B.supply s m + (if m = 0 then 0 else sto s (m - 1)) + B.down rel s m
def used (R : List Right) (d rel sto : Nat → Nat → Int) (s m : Nat) : Int := rel s m + sto s m + sumL (List.range R.length) fun r => if (rt R r).site = s then d r m else 0
/-- a month of a right plan -/
structure MonthOk (B : Basin) (R : List Right) (d rel sto : Nat → Nat → Int) (m : Nat) : Prop where
  d0 : ∀ r, r < R.length → 0 ≤ d r m ∧ d r m ≤ (rt R r).dem.getD m 0
  rel0 : ∀ s, s < B.n → 0 ≤ rel s m
  out : ∀ s, s < B.n → B.letTo s m = none → rel s m = 0
  reach : ∀ s c, s < B.n → (B.site s).reach = some c → rel s m ≤ c
  room : ∀ s, s < B.n → 0 ≤ sto s m ∧ sto s m ≤ (B.site s).room
  bal : ∀ s, s < B.n → used R d rel sto s m ≤ B.recv rel sto s m
theorem letTo_some {j s m : Nat} (hm : m < B.M) (h1 : (B.site j).nxt = some s) (h2 : (B.site j).tr ≤ m) : B.letTo j (m - (B.site j).tr) = some (s, m) := letTo_eq.mpr ⟨h1, by show m - (B.site j).tr + (B.site j).tr = m; omega, hm⟩
theorem down_rel {f : AId → Int} {s m : Nat} (hm : m < B.M) : B.down (relOf B f) s m = sumL (List.range B.n) fun j => if (B.site j).nxt = some s ∧ (B.site j).tr ≤ m then f (.rel j (m - (B.site j).tr)) else 0 := by
  refine sumL_congr fun j _ => ?_
  by_cases h : (B.site j).nxt = some s ∧ (B.site j).tr ≤ m
  · rw [if_pos h, if_pos h]
    unfold relOf
    rw [letTo_some hm h.1 h.2]
    rfl
  · rw [if_neg h, if_neg h]
/-- the flows' spill: what is not drawn of a cell's supply -/
theorem spill_eq (ok : B.Ok) (okR : RightsOk B R) (hM : 0 < B.M) {as : List Int} {f : AId → Int} (L : Led B.net .src (claims B R) as f) {s m : Nat} (hs : s < B.n) (hm : m < B.M) :
    B.recv (relOf B f) (stoOf B R as f) s m - used R (dOf B as) (relOf B f) (stoOf B R as f) s m = B.supply s m - f (.src s m) := by
  have e := stay_of_gain ok okR hM (d := dOf B as) (last := lastOf B R as) (f := f) (fun X hX => by rw [← amts_of hM L.len]; exact L.gain X hX) hs hm
  unfold Basin.stay at_ at e
  unfold Basin.recv used
  rw [down_rel hm]
  have h1 : (if m = 0 then (0 : Int) else stoOf B R as f s (m - 1)) = if m = 0 then 0 else f (.sto s (m - 1)) := by
    by_cases q : m = 0
    · rw [if_pos q, if_pos q]
    · rw [if_neg q, if_neg q]
      unfold stoOf
      rw [if_pos (by omega)]
  have h2 : stoOf B R as f s m = (if m + 1 < B.M then f (.sto s m) else 0) + (if m + 1 = B.M then lastOf B R as s else 0) := by
    unfold stoOf
    by_cases q : m + 1 < B.M
    · rw [if_pos q, if_pos q, if_neg (by omega)]; omega
    · rw [if_neg q, if_neg q, if_pos (by omega)]; omega
  have h3 : relOf B f s m = if (B.letTo s m).isSome = true then f (.rel s m) else 0 := rfl
  rw [h1, h2, h3]
  omega
theorem claim_right {r m : Nat} (hr : r < R.length) (hm : m < B.M) : (claims B R)[r * B.M + m]? = some (Node.cell (rt R r).site m, (rt R r).dem.getD m 0) := parts_right hr hm
theorem claim_room {s : Nat} (hs : s < B.n) : (claims B R)[R.length * B.M + s]? = some (Node.cell s (B.M - 1), (B.site s).room) := parts_room hs
theorem getD_get {as : List Int} {i : Nat} (h : i < as.length) : as[i]? = some (as.getD i 0) := by
  rw [List.getD_eq_getElem?_getD, List.getElem?_eq_getElem h]; rfl
theorem ix_right {r m : Nat} (hr : r < R.length) (hm : m < B.M) : r * B.M + m < (claims B R).length := (List.getElem?_eq_some_iff.mp (claim_right hr hm)).1
theorem ix_room {s : Nat} (hs : s < B.n) : R.length * B.M + s < (claims B R).length := (List.getElem?_eq_some_iff.mp (claim_room hs)).1
/-- the plan of flows that give each claim its amount is right -/
theorem led_ok (ok : B.Ok) (okR : RightsOk B R) (hM : 0 < B.M) {as : List Int} {f : AId → Int} (L : Led B.net .src (claims B R) as f) {m : Nat} (hm : m < B.M) : MonthOk B R (dOf B as) (relOf B f) (stoOf B R as f) m := by
  refine ⟨fun r hr => ?_, fun s hs => ?_, fun s hs h => ?_, fun s c hs h => ?_, fun s hs => ?_, fun s hs => ?_⟩
  · have := L.each _ _ _ (claim_right hr hm) (getD_get (by rw [L.len]; exact ix_right hr hm))
    exact ⟨this.1, this.2.1⟩
  · unfold relOf
    split
    · rename_i q
      exact (L.feas (.rel s m) (mem_ids.mpr ⟨hs, hm, q⟩)).1
    · exact Int.le_refl _
  · unfold relOf
    rw [h]; rfl
  · unfold relOf
    split
    · rename_i q
      exact (L.feas (.rel s m) (mem_ids.mpr ⟨hs, hm, q⟩)).2 c h
    · exact ok.reach s c h
  · unfold stoOf
    split
    · rename_i q
      have := L.feas (.sto s m) (mem_ids.mpr ⟨hs, q⟩)
      exact ⟨this.1, this.2 _ rfl⟩
    · have := L.each _ _ _ (claim_room hs) (getD_get (by rw [L.len]; exact ix_room hs))
      exact ⟨this.1, this.2.1⟩
  · have e := spill_eq ok okR hM L hs hm
    have := (L.feas (.src s m) (mem_ids.mpr ⟨hs, hm⟩)).2 _ rfl
    omega
/-- no right plan gives the first claims more -/
theorem plan_most (ok : B.Ok) (okR : RightsOk B R) (hM : 0 < B.M) {as : List Int} {f : AId → Int} (L : Led B.net .src (claims B R) as f) {d rel sto : Nat → Nat → Int} (P : ∀ m, m < B.M → MonthOk B R d rel sto m) (k : Nat) :
    ((amts B R d fun s => sto s (B.M - 1)).take k).sum ≤ (as.take k).sum := by
  let g : AId → Int := fun i => match i with
    | .src s m => B.supply s m
    | .sto s m => sto s m
    | .rel s m => rel s m
  have G : Feas B.net g := by
    intro i hi
    have hi' := mem_ids.mp hi
    cases i with
    | src s m =>
      have h0 : 0 ≤ B.supply s m := by
        unfold Basin.supply
        have := ok.i0 s m
        have := ok.held s
        split <;> omega
      exact ⟨h0, fun c hc => by cases hc; exact Int.le_refl _⟩
    | sto s m =>
      have hi' : s < B.n ∧ m + 1 < B.M := hi'
      have := (P m (by omega)).room s hi'.1
      exact ⟨this.1, fun c hc => by cases hc; exact this.2⟩
    | rel s m =>
      have hi' : s < B.n ∧ m < B.M ∧ (B.letTo s m).isSome = true := hi'
      exact ⟨(P m hi'.2.1).rel0 s hi'.1, fun c hc => (P m hi'.2.1).reach s c hi'.1 hc⟩
  refine L.most G (amts_len.trans claims_len.symm) (fun X hX => ?_) (fun j c b e1 e2 => ?_) k
  · rw [gain_cells ok g X hX, inX_cells okR hM]
    refine sumL_le fun c hc => ?_
    obtain ⟨h1, h2⟩ := mem_cells.mp (show (c.1, c.2) ∈ B.cells from hc)
    split
    · have bal := (P c.2 h2).bal c.1 h1
      unfold Basin.recv used at bal
      unfold Basin.stay at_
      show _ ≤ B.supply c.1 c.2 + (if c.2 = 0 then 0 else sto c.1 (c.2 - 1)) + B.down rel c.1 c.2 - ((if c.2 + 1 < B.M then sto c.1 c.2 else 0) + (if (B.letTo c.1 c.2).isSome = true then rel c.1 c.2 else 0))
      have h3 : (if (B.letTo c.1 c.2).isSome = true then rel c.1 c.2 else 0) = rel c.1 c.2 := by
        by_cases q : (B.letTo c.1 c.2).isSome = true
        · rw [if_pos q]
        · rw [if_neg q, (P c.2 h2).out c.1 h1 (by simpa using q)]
      have h4 : sto c.1 c.2 = (if c.2 + 1 < B.M then sto c.1 c.2 else 0) + (if c.2 + 1 = B.M then sto c.1 (B.M - 1) else 0) := by
        by_cases q : c.2 + 1 < B.M
        · rw [if_pos q, if_neg (by omega)]; omega
        · have e : c.2 = B.M - 1 := by omega
          rw [if_neg q, if_pos (by omega), e]; omega
      rw [h3]
      show _ + (if c.2 + 1 = B.M then sto c.1 (B.M - 1) else 0) ≤ _
      omega
    · exact Int.le_refl _
  · unfold claims at e1
    unfold amts at e2
    rw [parts_get hM] at e1 e2
    by_cases q : j < R.length * B.M
    · rw [if_pos q] at e1 e2
      cases e1
      cases e2
      have hr : j / B.M < R.length := (Nat.div_lt_iff_lt_mul hM).mpr q
      exact (P _ (Nat.mod_lt _ hM)).d0 _ hr
    · rw [if_neg q] at e1 e2
      by_cases q2 : j < R.length * B.M + B.n
      · rw [if_pos q2] at e1 e2
        cases e1
        cases e2
        exact (P (B.M - 1) (by omega)).room _ (by omega)
      · rw [if_neg q2] at e1
        cases e1
end
end HW
end
section
/-! HWTail: behind the first month of flows with the greatest deliveries, the rest of them are the greatest of the rest. -/
namespace HW
def tailSite (B : Basin) (rel0 sto0 : Nat → Int) (s : Nat) : Site :=
  { B.site s with
    held := sto0 s
    infl := (List.range (B.M - 1)).map fun i => B.infl s (i + 1) + sumL (List.range B.n) fun j => if (B.site j).nxt = some s ∧ (B.site j).tr = i + 1 then rel0 j else 0 }
def tailB (B : Basin) (rel0 sto0 : Nat → Int) : Basin := ⟨B.M - 1, (List.range B.n).map (tailSite B rel0 sto0)⟩
def tailR (R : List Right) : List Right := R.map fun r => ⟨r.site, r.dem.drop 1⟩
def tailF (B : Basin) (f : AId → Int) : AId → Int := fun i => match i with
  | .src s m => f (.src s (m + 1)) + (if m = 0 then f (.sto s 0) else 0) + sumL (List.range B.n) fun j => if (B.site j).nxt = some s ∧ (B.site j).tr = m + 1 then relOf B f j 0 else 0
  | .sto s m => f (.sto s (m + 1))
  | .rel s m => f (.rel s (m + 1))
theorem site_none {B : Basin} {s : Nat} (h : ¬ s < B.n) : B.site s = Site.none := by
  unfold Basin.site
  rw [List.getD_eq_getElem?_getD, List.getElem?_eq_none (by unfold Basin.n at h; omega)]; rfl
section
variable {B : Basin} {rel0 sto0 : Nat → Int}
theorem tail_n : (tailB B rel0 sto0).n = B.n := by unfold tailB Basin.n; simp
theorem tail_site {s : Nat} (hs : s < B.n) : (tailB B rel0 sto0).site s = tailSite B rel0 sto0 s := by
  show ((List.range B.n).map (tailSite B rel0 sto0)).getD s Site.none = _
  rw [List.getD_eq_getElem?_getD, List.getElem?_map, List.getElem?_range hs]; rfl
theorem tail_nxt (s : Nat) : ((tailB B rel0 sto0).site s).nxt = (B.site s).nxt := by
  by_cases hs : s < B.n
  · rw [tail_site hs]; rfl
  · rw [site_none hs, site_none (by rw [tail_n]; exact hs)]
theorem tail_tr (s : Nat) : ((tailB B rel0 sto0).site s).tr = (B.site s).tr := by
  by_cases hs : s < B.n
  · rw [tail_site hs]; rfl
  · rw [site_none hs, site_none (by rw [tail_n]; exact hs)]
theorem tail_reach (s : Nat) : ((tailB B rel0 sto0).site s).reach = (B.site s).reach := by
  by_cases hs : s < B.n
  · rw [tail_site hs]; rfl
  · rw [site_none hs, site_none (by rw [tail_n]; exact hs)]
theorem tail_room (s : Nat) : ((tailB B rel0 sto0).site s).room = (B.site s).room := by
  by_cases hs : s < B.n
  · rw [tail_site hs]; rfl
  · rw [site_none hs, site_none (by rw [tail_n]; exact hs)]
theorem tail_held {s : Nat} (hs : s < B.n) : ((tailB B rel0 sto0).site s).held = sto0 s := by rw [tail_site hs]; rfl
theorem tail_infl {s m : Nat} (hs : s < B.n) (hm : m < B.M - 1) : (tailB B rel0 sto0).infl s m = B.infl s (m + 1) + sumL (List.range B.n) fun j => if (B.site j).nxt = some s ∧ (B.site j).tr = m + 1 then rel0 j else 0 := by
  unfold Basin.infl
  rw [tail_site hs]
  unfold tailSite
  simp only
  rw [List.getD_eq_getElem?_getD, List.getElem?_map, List.getElem?_range hm]; rfl
theorem tail_M : (tailB B rel0 sto0).M = B.M - 1 := rfl
theorem tail_letTo (s m : Nat) : (tailB B rel0 sto0).letTo s m = (B.letTo s (m + 1)).map fun c => (c.1, c.2 - 1) := by
  unfold Basin.letTo
  rw [tail_nxt, tail_tr, tail_M]
  cases (B.site s).nxt with
  | none => rfl
  | some t =>
    simp only
    by_cases h : m + (B.site s).tr < B.M - 1
    · rw [if_pos h, if_pos (by omega)]
      simp only [Option.map_some, Option.some.injEq, Prod.mk.injEq, true_and]
      omega
    · rw [if_neg h, if_neg (by omega)]; rfl
theorem tail_ok (ok : B.Ok) (h1 : ∀ j, j < B.n → 0 ≤ rel0 j) (h2 : ∀ s, s < B.n → 0 ≤ sto0 s) : (tailB B rel0 sto0).Ok := by
  refine ⟨fun s t hs h => ?_, fun s hs => ?_, fun s m => ?_, fun s => ?_, fun s => ?_, fun s c h => ?_⟩
  · rw [tail_n] at hs ⊢
    rw [tail_nxt] at h
    exact ok.nxt s t hs h
  · rw [tail_n] at hs
    rw [tail_site hs, tail_M]
    unfold tailSite
    simp
  · by_cases hs : s < B.n
    · by_cases hm : m < B.M - 1
      · rw [tail_infl hs hm]
        have := ok.i0 s (m + 1)
        have : 0 ≤ sumL (List.range B.n) fun j => if (B.site j).nxt = some s ∧ (B.site j).tr = m + 1 then rel0 j else 0 := sumL_nonneg fun j hj => by
          have := h1 j (List.mem_range.mp hj)
          split <;> omega
        omega
      · unfold Basin.infl
        rw [tail_site hs]
        unfold tailSite
        simp only
        rw [List.getD_eq_getElem?_getD, List.getElem?_eq_none (by simp; omega)]
        exact Int.le_refl _
    · unfold Basin.infl
      rw [site_none (by rw [tail_n]; exact hs)]
      exact Int.le_refl _
  · by_cases hs : s < B.n
    · rw [tail_held hs]; exact h2 s hs
    · rw [site_none (by rw [tail_n]; exact hs)]; exact Int.le_refl _
  · rw [tail_room]; exact ok.room s
  · rw [tail_reach] at h; exact ok.reach s c h
theorem tailR_len (R : List Right) : (tailR R).length = R.length := by unfold tailR; simp
theorem tailR_rt {R : List Right} {r : Nat} (hr : r < R.length) : rt (tailR R) r = ⟨(rt R r).site, (rt R r).dem.drop 1⟩ := by
  unfold rt tailR
  rw [List.getD_eq_getElem?_getD, List.getElem?_map, List.getElem?_eq_getElem hr, List.getD_eq_getElem?_getD, List.getElem?_eq_getElem hr]
  rfl
theorem tailR_ok {R : List Right} (ok : RightsOk B R) : RightsOk (tailB B rel0 sto0) (tailR R) := by
  refine ⟨fun r hr => ?_, fun r hr => ?_, fun r hr d hd => ?_⟩ <;> obtain ⟨q, hq, rfl⟩ := List.mem_map.mp hr
  · rw [tail_n]; exact ok.site q hq
  · show (q.dem.drop 1).length = B.M - 1
    rw [List.length_drop, ok.len q hq]
  · exact ok.d0 q hq d (List.mem_of_mem_drop hd)
/-- the index of a claim of the rest, in the whole -/
def up1 (a p i : Nat) : Nat := if i < a * p then i + i / p + 1 else i + a
theorem up1_mono {a p i j : Nat} (hp : 0 < p) (h : i < j) : up1 a p i < up1 a p j := by
  unfold up1
  have d : i / p ≤ j / p := Nat.div_le_div_right (Nat.le_of_lt h)
  by_cases h1 : i < a * p
  · have d2 : i / p < a := (Nat.div_lt_iff_lt_mul hp).mpr h1
    rw [if_pos h1]
    split <;> omega
  · rw [if_neg h1, if_neg (by omega)]; omega
theorem up1_right {a p i : Nat} (hp : 0 < p) (h : i < a * p) : up1 a p i = i / p * (p + 1) + (i % p + 1) := by
  unfold up1
  rw [if_pos h, Nat.mul_succ]
  have := Nat.div_add_mod i p
  rw [Nat.mul_comm] at this
  omega
theorem up1_room {a p i : Nat} (h : ¬ i < a * p) : up1 a p i = a * (p + 1) + (i - a * p) := by
  unfold up1
  rw [if_neg h, Nat.mul_succ]
  omega
end
section
variable {B : Basin} {R : List Right}
theorem dem_tail {r m : Nat} (hr : r < R.length) : (rt (tailR R) r).dem.getD m 0 = (rt R r).dem.getD (m + 1) 0 := by
  rw [tailR_rt hr]
  show ((rt R r).dem.drop 1).getD m 0 = _
  rw [List.getD_eq_getElem?_getD, List.getElem?_drop, List.getD_eq_getElem?_getD, Nat.add_comm 1 m]
def shiftX (X : Node → Bool) : Node → Bool := fun v => match v with
  | .src => false
  | .cell s m => X (.cell s (m + 1))
/-- a claim of the rest -/
theorem claim_tail {rel0 sto0 : Nat → Int} (hM : 2 ≤ B.M) {i : Nat} {c : Node × Int} (h : (claims (tailB B rel0 sto0) (tailR R))[i]? = some c) :
    ∃ s m, c.1 = .cell s m ∧ (claims B R)[up1 R.length (B.M - 1) i]? = some (.cell s (m + 1), c.2) := by
  have p : B.M - 1 + 1 = B.M := by omega
  unfold claims at h
  rw [parts_get (by rw [tail_M]; omega), tail_M, tail_n, tailR_len] at h
  by_cases q : i < R.length * (B.M - 1)
  · rw [if_pos q] at h
    cases h
    have hr : i / (B.M - 1) < R.length := (Nat.div_lt_iff_lt_mul (by omega)).mpr q
    refine ⟨_, _, rfl, ?_⟩
    rw [up1_right (by omega) q, p, claim_right hr (by have := Nat.mod_lt i (show 0 < B.M - 1 by omega); omega)]
    show _ = some (Node.cell (rt (tailR R) (i / (B.M - 1))).site (i % (B.M - 1) + 1), (rt (tailR R) (i / (B.M - 1))).dem.getD (i % (B.M - 1)) 0)
    rw [dem_tail hr, tailR_rt hr]
  · rw [if_neg q] at h
    by_cases q2 : i < R.length * (B.M - 1) + B.n
    · rw [if_pos q2] at h
      cases h
      refine ⟨_, _, rfl, ?_⟩
      rw [up1_room q, p, claim_room (by omega)]
      show _ = some (Node.cell (i - R.length * (B.M - 1)) (B.M - 1 - 1 + 1), ((tailB B rel0 sto0).site (i - R.length * (B.M - 1))).room)
      rw [tail_room, show B.M - 1 - 1 + 1 = B.M - 1 by omega]
    · rw [if_neg q2] at h
      cases h
theorem amt_tail {rel0 sto0 : Nat → Int} (hM : 2 ≤ B.M) {as : List Int} (hl : as.length = (claims B R).length) {i : Nat} {a : Int} (h : (amts (tailB B rel0 sto0) (tailR R) (fun r m => dOf B as r (m + 1)) (lastOf B R as))[i]? = some a) :
    as[up1 R.length (B.M - 1) i]? = some a := by
  have p : B.M - 1 + 1 = B.M := by omega
  unfold amts at h
  rw [parts_get (by rw [tail_M]; omega), tail_M, tail_n, tailR_len] at h
  by_cases q : i < R.length * (B.M - 1)
  · rw [if_pos q] at h
    cases h
    have hr : i / (B.M - 1) < R.length := (Nat.div_lt_iff_lt_mul (by omega)).mpr q
    have hm : i % (B.M - 1) + 1 < B.M := by have := Nat.mod_lt i (show 0 < B.M - 1 by omega); omega
    rw [up1_right (by omega) q, p, getD_get (by rw [hl]; exact ix_right hr hm)]
    rfl
  · rw [if_neg q] at h
    by_cases q2 : i < R.length * (B.M - 1) + B.n
    · rw [if_pos q2] at h
      cases h
      rw [up1_room q, p, getD_get (by rw [hl]; exact ix_room (by omega))]
      rfl
    · rw [if_neg q2] at h
      cases h
theorem tail_led (ok : B.Ok) (okR : RightsOk B R) (hM : 2 ≤ B.M) {as : List Int} {f : AId → Int} (L : Led B.net .src (claims B R) as f) :
    Led (tailB B (fun j => relOf B f j 0) (fun s => stoOf B R as f s 0)).net .src (claims (tailB B (fun j => relOf B f j 0) (fun s => stoOf B R as f s 0)) (tailR R))
      (amts (tailB B (fun j => relOf B f j 0) (fun s => stoOf B R as f s 0)) (tailR R) (fun r m => dOf B as r (m + 1)) (lastOf B R as)) (tailF B f) := by
  have M0 := led_ok ok okR (by omega) L (m := 0) (by omega)
  have ok' : (tailB B (fun j => relOf B f j 0) (fun s => stoOf B R as f s 0)).Ok := tail_ok ok M0.rel0 fun s hs => (M0.room s hs).1
  have okR' : RightsOk (tailB B (fun j => relOf B f j 0) (fun s => stoOf B R as f s 0)) (tailR R) := tailR_ok okR
  have hsto : ∀ s, stoOf B R as f s 0 = f (.sto s 0) := fun s => by unfold stoOf; rw [if_pos (by omega)]
  generalize eT : tailB B (fun j => relOf B f j 0) (fun s => stoOf B R as f s 0) = T at *
  have Tn : T.n = B.n := by rw [← eT]; exact tail_n
  have TM : T.M = B.M - 1 := by rw [← eT]; rfl
  have Tnxt : ∀ s, (T.site s).nxt = (B.site s).nxt := fun s => by rw [← eT]; exact tail_nxt s
  have Ttr : ∀ s, (T.site s).tr = (B.site s).tr := fun s => by rw [← eT]; exact tail_tr s
  have Tlet : ∀ s m, T.letTo s m = (B.letTo s (m + 1)).map fun c => (c.1, c.2 - 1) := fun s m => by rw [← eT]; exact tail_letTo s m
  have TletS : ∀ s m, (T.letTo s m).isSome = (B.letTo s (m + 1)).isSome := fun s m => by rw [Tlet, Option.isSome_map]
  have Troom : ∀ s, (T.site s).room = (B.site s).room := fun s => by rw [← eT]; exact tail_room s
  have Treach : ∀ s, (T.site s).reach = (B.site s).reach := fun s => by rw [← eT]; exact tail_reach s
  have Tsup : ∀ s m, s < B.n → m < B.M - 1 → T.supply s m = B.infl s (m + 1) + (sumL (List.range B.n) fun j => if (B.site j).nxt = some s ∧ (B.site j).tr = m + 1 then relOf B f j 0 else 0) + (if m = 0 then f (.sto s 0) else 0) := fun s m hs hm => by
    rw [← hsto s, ← eT]
    unfold Basin.supply
    rw [tail_infl hs hm, tail_held hs]
  have carry0 : ∀ s m, 0 ≤ sumL (List.range B.n) fun j => if (B.site j).nxt = some s ∧ (B.site j).tr = m + 1 then relOf B f j 0 else 0 := fun s m => sumL_nonneg fun j hj => by
    have := M0.rel0 j (List.mem_range.mp hj)
    split <;> omega
  have sup1 : ∀ s m, B.supply s (m + 1) = B.infl s (m + 1) := fun s m => by
    unfold Basin.supply
    rw [if_neg (by omega)]; omega
  have feas' : Feas T.net (tailF B f) := by
    intro i hi
    have hi := mem_ids.mp hi
    cases i with
    | src s m =>
      have hi : s < T.n ∧ m < T.M := hi
      rw [Tn, TM] at hi
      have h1 := L.feas (.src s (m + 1)) (mem_ids.mpr ⟨hi.1, by omega⟩)
      have h2 : f (.src s (m + 1)) ≤ B.supply s (m + 1) := h1.2 _ rfl
      rw [sup1] at h2
      have h3 := L.feas (.sto s 0) (mem_ids.mpr ⟨hi.1, by omega⟩)
      have h4 := carry0 s m
      refine ⟨?_, fun c hc => ?_⟩
      · show 0 ≤ f (.src s (m + 1)) + (if m = 0 then f (.sto s 0) else 0) + _
        have := h1.1
        have := h3.1
        split <;> omega
      · have hc : some (T.supply s m) = some c := hc
        cases hc
        rw [Tsup s m hi.1 hi.2]
        show f (.src s (m + 1)) + (if m = 0 then f (.sto s 0) else 0) + _ ≤ _
        omega
    | sto s m =>
      have hi : s < T.n ∧ m + 1 < T.M := hi
      rw [Tn, TM] at hi
      have h1 := L.feas (.sto s (m + 1)) (mem_ids.mpr ⟨hi.1, by omega⟩)
      refine ⟨h1.1, fun c hc => h1.2 c ?_⟩
      have hc : some ((T.site s).room) = some c := hc
      rw [Troom] at hc
      exact hc
    | rel s m =>
      have hi : s < T.n ∧ m < T.M ∧ (T.letTo s m).isSome = true := hi
      rw [Tn, TM, TletS] at hi
      have h1 := L.feas (.rel s (m + 1)) (mem_ids.mpr ⟨hi.1, by omega, hi.2.2⟩)
      refine ⟨h1.1, fun c hc => h1.2 c ?_⟩
      have hc : (T.site s).reach = some c := hc
      rw [Treach] at hc
      exact hc
  have stay' : ∀ s m, s < T.n → m < T.M → T.stay (tailF B f) s m = at_ T (tailR R) (fun r m => dOf B as r (m + 1)) (lastOf B R as) s m := by
    intro s m hs hm
    rw [Tn] at hs
    rw [TM] at hm
    have e := stay_of_gain ok okR (by omega) (d := dOf B as) (last := lastOf B R as) (f := f) (fun X hX => by rw [← amts_of (by omega) L.len]; exact L.gain X hX) hs (show m + 1 < B.M by omega)
    have e1 : at_ T (tailR R) (fun r m => dOf B as r (m + 1)) (lastOf B R as) s m = at_ B R (dOf B as) (lastOf B R as) s (m + 1) := by
      unfold at_
      rw [tailR_len, TM]
      congr 1
      · refine sumL_congr fun r hr => ?_
        rw [tailR_rt (List.mem_range.mp hr)]
      · by_cases q : m + 1 = B.M - 1
        · rw [if_pos q, if_pos (by omega)]
        · rw [if_neg q, if_neg (by omega)]
    rw [e1, ← e]
    unfold Basin.stay
    have d1 : (sumL (List.range T.n) fun j => if (T.site j).nxt = some s ∧ (T.site j).tr ≤ m then tailF B f (.rel j (m - (T.site j).tr)) else 0) +
        (sumL (List.range B.n) fun j => if (B.site j).nxt = some s ∧ (B.site j).tr = m + 1 then relOf B f j 0 else 0) =
        sumL (List.range B.n) fun j => if (B.site j).nxt = some s ∧ (B.site j).tr ≤ m + 1 then f (.rel j (m + 1 - (B.site j).tr)) else 0 := by
      rw [Tn, ← sumL_add]
      refine sumL_congr fun j _ => ?_
      rw [Tnxt, Ttr]
      by_cases q1 : (B.site j).nxt = some s
      · by_cases q2 : (B.site j).tr ≤ m
        · rw [if_pos ⟨q1, q2⟩, if_neg (by omega), if_pos ⟨q1, by omega⟩]
          show f (.rel j (m - (B.site j).tr + 1)) + 0 = _
          rw [show m - (B.site j).tr + 1 = m + 1 - (B.site j).tr by omega]; omega
        · by_cases q3 : (B.site j).tr = m + 1
          · rw [if_neg (by omega), if_pos ⟨q1, q3⟩, if_pos ⟨q1, by omega⟩, show m + 1 - (B.site j).tr = 0 by omega]
            unfold relOf
            have : B.letTo j 0 = some (s, m + 1) := letTo_eq.mpr ⟨q1, by show 0 + (B.site j).tr = m + 1; omega, by show m + 1 < B.M; omega⟩
            rw [this]
            simp
          · rw [if_neg (by omega), if_neg (by omega), if_neg (by omega)]; rfl
      · rw [if_neg (fun z => q1 z.1), if_neg (fun z => q1 z.1), if_neg (fun z => q1 z.1)]; rfl
    have d2 : (if (T.letTo s m).isSome = true then tailF B f (.rel s m) else 0) = if (B.letTo s (m + 1)).isSome = true then f (.rel s (m + 1)) else 0 := by rw [TletS]; rfl
    have d3 : (if m + 1 < T.M then tailF B f (.sto s m) else 0) = if m + 1 + 1 < B.M then f (.sto s (m + 1)) else 0 := by
      rw [TM]
      by_cases q : m + 1 < B.M - 1
      · rw [if_pos q, if_pos (by omega)]; rfl
      · rw [if_neg q, if_neg (by omega)]
    have d4 : tailF B f (.src s m) = f (.src s (m + 1)) + (if m = 0 then f (.sto s 0) else 0) + sumL (List.range B.n) fun j => if (B.site j).nxt = some s ∧ (B.site j).tr = m + 1 then relOf B f j 0 else 0 := rfl
    have d5 : (if m = 0 then 0 else tailF B f (.sto s (m - 1))) + (if m = 0 then f (.sto s 0) else 0) = if m + 1 = 0 then 0 else f (.sto s (m + 1 - 1)) := by
      by_cases q : m = 0
      · subst q; simp
      · rw [if_neg q, if_neg q, if_neg (by omega)]
        show f (.sto s (m - 1 + 1)) + 0 = f (.sto s (m + 1 - 1))
        rw [show m - 1 + 1 = m + 1 - 1 by omega]; omega
    rw [d2, d3, d4, ← d1, ← d5]
    omega
  refine ⟨amts_len.trans claims_len.symm, feas', fun X hX => gain_of_stay ok' okR' (by rw [TM]; omega) stay' X hX, fun j c a e1 e2 => ?_⟩
  have e1' := e1
  have e2' := e2
  rw [← eT] at e1' e2'
  obtain ⟨s, m, hc, g1⟩ := claim_tail hM e1'
  have g2 := amt_tail hM L.len e2'
  obtain ⟨p1, p2, p3⟩ := L.each _ _ _ g1 g2
  refine ⟨p1, p2, fun lt => ?_⟩
  obtain ⟨X, x1, w⟩ := p3 lt
  have hx' : ∀ v, shiftX X v = true → ∃ s m, v = .cell s m ∧ X (.cell s (m + 1)) = true := fun v h => by
    cases v with
    | src => cases h
    | cell s m => exact ⟨s, m, rfl, h⟩
  -- the set holds no more in the whole
  have b1 := inX_le (X := X) (cl := claims B R) (as := as) (up1 R.length (B.M - 1) j + 1) L.nonneg
  have b2 := gain_le L.feas w.shut
  rw [L.gain X w.src] at b2
  have b3 := w.cap
  have tight : Tight B.net f X := tight_of L.feas w.shut (by rw [L.gain X w.src]; omega)
  have later := inX_eq (X := X) (cl := claims B R) (as := as) (up1 R.length (B.M - 1) j + 1) L.nonneg (by omega)
  -- nor in the rest
  have tight' : Tight T.net (tailF B f) (shiftX X) := by
    intro i hi
    have hi := mem_ids.mp hi
    cases i with
    | src s m =>
      have hi : s < T.n ∧ m < T.M := hi
      rw [Tn, TM] at hi
      refine ⟨fun en => ?_, fun z => (nomatch z)⟩
      have en1 : X (.cell s (m + 1)) = true := en.1
      have q := (tight (.src s (m + 1)) (mem_ids.mpr ⟨hi.1, by omega⟩)).1 ⟨en1, w.src⟩
      have q : some (B.supply s (m + 1)) = some (f (.src s (m + 1))) := q
      have q := Option.some.inj q
      rw [sup1] at q
      show some (T.supply s m) = some (f (.src s (m + 1)) + (if m = 0 then f (.sto s 0) else 0) + sumL (List.range B.n) fun j => if (B.site j).nxt = some s ∧ (B.site j).tr = m + 1 then relOf B f j 0 else 0)
      rw [Tsup s m hi.1 hi.2, q]
      congr 1
      omega
    | sto s m =>
      have hi : s < T.n ∧ m + 1 < T.M := hi
      rw [Tn, TM] at hi
      have q := tight (.sto s (m + 1)) (mem_ids.mpr ⟨hi.1, by omega⟩)
      refine ⟨fun en => ?_, fun h1 h2 => q.2 h1 h2⟩
      have := q.1 ⟨en.1, en.2⟩
      show some ((T.site s).room) = some (f (.sto s (m + 1)))
      rw [Troom]
      exact this
    | rel s m =>
      have hi : s < T.n ∧ m < T.M ∧ (T.letTo s m).isSome = true := hi
      rw [Tn, TM, TletS] at hi
      have q := tight (.rel s (m + 1)) (mem_ids.mpr ⟨hi.1, by omega, hi.2.2⟩)
      obtain ⟨c0, hc0⟩ := Option.isSome_iff_exists.mp hi.2.2
      have hc1 : 1 ≤ c0.2 := by have := (letTo_eq.mp hc0).2.1; omega
      have hX2 : shiftX X (T.net.hd (.rel s m)) = X (B.net.hd (.rel s (m + 1))) := by
        show shiftX X (toNode (T.letTo s m)) = X (toNode (B.letTo s (m + 1)))
        rw [Tlet, hc0]
        show X (.cell c0.1 (c0.2 - 1 + 1)) = X (.cell c0.1 c0.2)
        rw [Nat.sub_add_cancel hc1]
      refine ⟨fun en => ?_, fun h1 h2 => q.2 h1 (by rw [← hX2]; exact h2)⟩
      have := q.1 ⟨by rw [← hX2]; exact en.1, en.2⟩
      show (T.site s).reach = some (f (.rel s (m + 1)))
      rw [Treach]
      exact this
  refine ⟨shiftX X, by rw [hc]; exact x1, rfl, tight'.shut, ?_⟩
  rw [← tight'.eq, gain_of_stay ok' okR' (by rw [TM]; omega) stay' _ rfl]
  refine inX_first (j + 1) fun j' c' a' hj' e3 e4 hx => ?_
  rw [← eT] at e3 e4
  obtain ⟨s', m', hc', g3⟩ := claim_tail hM e3
  have g4 := amt_tail hM L.len e4
  rw [hc'] at hx
  exact later _ _ _ (up1_mono (by omega) (by omega)) g3 g4 hx
end
end HW
end
section
/-! HWSeason: a season's rests; as forecast each right gets its greatest deliveries; all closed months together are a right plan. -/
namespace HW
structure Rec where
  d : List Int
  rel : List Int
  sto : List Int
def Rec.none : Rec := ⟨[], [], []⟩
def rcd (recs : List Rec) (m : Nat) : Rec := recs.getD m Rec.none
def recD (recs : List Rec) (r m : Nat) : Int := (rcd recs m).d.getD r 0
def recRel (recs : List Rec) (s m : Nat) : Int := (rcd recs m).rel.getD s 0
def recSto (recs : List Rec) (s m : Nat) : Int := (rcd recs m).sto.getD s 0
/-- what was let down in closed months and arrives -/
def arrive (B : Basin) (recs : List Rec) (s m : Nat) : Int := sumL (List.range B.n) fun j =>
  if (B.site j).nxt = some s ∧ (B.site j).tr ≤ m ∧ m - (B.site j).tr < recs.length then recRel recs j (m - (B.site j).tr) else 0
def heldOf (B : Basin) (recs : List Rec) (s : Nat) : Int := if recs.length = 0 then (B.site s).held else recSto recs s (recs.length - 1)
def restSite (B : Basin) (recs : List Rec) (x : Nat → Int) (s : Nat) : Site :=
  { B.site s with
    held := heldOf B recs s
    infl := (List.range (B.M - recs.length)).map fun i => (if i = 0 then x s else B.infl s (recs.length + i)) + arrive B recs s (recs.length + i) }
def restB (B : Basin) (recs : List Rec) (x : Nat → Int) : Basin := ⟨B.M - recs.length, (List.range B.n).map (restSite B recs x)⟩
def restR (R : List Right) (k : Nat) : List Right := R.map fun r => ⟨r.site, r.dem.drop k⟩
def mkRec (B : Basin) (R : List Right) (as : List Int) (f : AId → Int) : Rec :=
  ⟨(List.range R.length).map fun r => dOf B as r 0, (List.range B.n).map fun s => relOf B f s 0, (List.range B.n).map fun s => stoOf B R as f s 0⟩
/-- the records of months closed with the inflows x (by month, site) -/
inductive Run (B : Basin) (R : List Right) (x : Nat → Nat → Int) : List Rec → Prop
  | nil : Run B R x []
  | snoc {recs : List Rec} {as : List Int} {f : AId → Int} : Run B R x recs → recs.length < B.M →
      Led (restB B recs (x recs.length)).net .src (claims (restB B recs (x recs.length)) (restR R recs.length)) as f →
      Run B R x (recs ++ [mkRec (restB B recs (x recs.length)) (restR R recs.length) as f])
section
variable {B : Basin} {R : List Right} {x : Nat → Nat → Int}
theorem map_getD {α : Type} {n i : Nat} {g : Nat → α} {z : α} (h : i < n) : ((List.range n).map g).getD i z = g i := by
  rw [List.getD_eq_getElem?_getD, List.getElem?_map, List.getElem?_range h]; rfl
theorem rcd_old {recs : List Rec} {r : Rec} {m : Nat} (h : m < recs.length) : rcd (recs ++ [r]) m = rcd recs m := by
  unfold rcd
  rw [List.getD_eq_getElem?_getD, List.getElem?_append_left h, List.getD_eq_getElem?_getD]
theorem rcd_new {recs : List Rec} {r : Rec} : rcd (recs ++ [r]) recs.length = r := by
  unfold rcd
  rw [List.getD_eq_getElem?_getD, List.getElem?_append_right (Nat.le_refl _), Nat.sub_self]; rfl
theorem rest_n {recs : List Rec} {y : Nat → Int} : (restB B recs y).n = B.n := by unfold restB Basin.n; simp
theorem rest_M {recs : List Rec} {y : Nat → Int} : (restB B recs y).M = B.M - recs.length := rfl
theorem rest_site {recs : List Rec} {y : Nat → Int} {s : Nat} (hs : s < B.n) : (restB B recs y).site s = restSite B recs y s := map_getD hs
theorem rest_nxt {recs : List Rec} {y : Nat → Int} (s : Nat) : ((restB B recs y).site s).nxt = (B.site s).nxt := by
  by_cases hs : s < B.n
  · rw [rest_site hs]; rfl
  · rw [site_none hs, site_none (by rw [rest_n]; exact hs)]
theorem rest_tr {recs : List Rec} {y : Nat → Int} (s : Nat) : ((restB B recs y).site s).tr = (B.site s).tr := by
  by_cases hs : s < B.n
  · rw [rest_site hs]; rfl
  · rw [site_none hs, site_none (by rw [rest_n]; exact hs)]
theorem rest_reach {recs : List Rec} {y : Nat → Int} (s : Nat) : ((restB B recs y).site s).reach = (B.site s).reach := by
  by_cases hs : s < B.n
  · rw [rest_site hs]; rfl
  · rw [site_none hs, site_none (by rw [rest_n]; exact hs)]
theorem rest_room {recs : List Rec} {y : Nat → Int} (s : Nat) : ((restB B recs y).site s).room = (B.site s).room := by
  by_cases hs : s < B.n
  · rw [rest_site hs]; rfl
  · rw [site_none hs, site_none (by rw [rest_n]; exact hs)]
theorem rest_held {recs : List Rec} {y : Nat → Int} {s : Nat} (hs : s < B.n) : ((restB B recs y).site s).held = heldOf B recs s := by rw [rest_site hs]; rfl
theorem rest_infl {recs : List Rec} {y : Nat → Int} {s i : Nat} (hs : s < B.n) (hi : i < B.M - recs.length) : (restB B recs y).infl s i = (if i = 0 then y s else B.infl s (recs.length + i)) + arrive B recs s (recs.length + i) := by
  unfold Basin.infl
  rw [rest_site hs]
  exact map_getD hi
/-- what is asked of records -/
structure RecsOk (B : Basin) (recs : List Rec) : Prop where
  rel : ∀ s m, s < B.n → m < recs.length → 0 ≤ recRel recs s m
  sto : ∀ s m, s < B.n → m < recs.length → 0 ≤ recSto recs s m
theorem arrive0 {recs : List Rec} (h : RecsOk B recs) (s m : Nat) : 0 ≤ arrive B recs s m := sumL_nonneg fun j hj => by
  split
  · rename_i q
    exact h.rel j _ (List.mem_range.mp hj) q.2.2
  · exact Int.le_refl _
theorem rest_ok (ok : B.Ok) {recs : List Rec} {y : Nat → Int} (h : RecsOk B recs) (hy : ∀ s, s < B.n → 0 ≤ y s) : (restB B recs y).Ok := by
  refine ⟨fun s t hs e => ?_, fun s hs => ?_, fun s m => ?_, fun s => ?_, fun s => ?_, fun s c e => ?_⟩
  · rw [rest_n] at hs ⊢
    rw [rest_nxt] at e
    exact ok.nxt s t hs e
  · rw [rest_n] at hs
    rw [rest_site hs, rest_M]
    unfold restSite
    simp
  · by_cases hs : s < B.n
    · by_cases hm : m < B.M - recs.length
      · rw [rest_infl hs hm]
        have := ok.i0 s (recs.length + m)
        have := arrive0 h s (recs.length + m)
        have := hy s hs
        split <;> omega
      · unfold Basin.infl
        rw [rest_site hs]
        unfold restSite
        simp only
        rw [List.getD_eq_getElem?_getD, List.getElem?_eq_none (by simp; omega)]
        exact Int.le_refl _
    · unfold Basin.infl
      rw [site_none (by rw [rest_n]; exact hs)]
      exact Int.le_refl _
  · by_cases hs : s < B.n
    · rw [rest_held hs]
      unfold heldOf
      split
      · exact ok.held s
      · exact h.sto s _ hs (by omega)
    · rw [site_none (by rw [rest_n]; exact hs)]; exact Int.le_refl _
  · rw [rest_room]; exact ok.room s
  · rw [rest_reach] at e; exact ok.reach s c e
theorem restR_len (k : Nat) : (restR R k).length = R.length := by unfold restR; simp
theorem restR_rt {k r : Nat} (hr : r < R.length) : rt (restR R k) r = ⟨(rt R r).site, (rt R r).dem.drop k⟩ := by
  unfold rt restR
  rw [List.getD_eq_getElem?_getD, List.getElem?_map, List.getElem?_eq_getElem hr, List.getD_eq_getElem?_getD, List.getElem?_eq_getElem hr]
  rfl
theorem restR_ok (ok : RightsOk B R) {recs : List Rec} {y : Nat → Int} : RightsOk (restB B recs y) (restR R recs.length) := by
  refine ⟨fun r hr => ?_, fun r hr => ?_, fun r hr d hd => ?_⟩ <;> obtain ⟨q, hq, rfl⟩ := List.mem_map.mp hr
  · rw [rest_n]; exact ok.site q hq
  · show (q.dem.drop recs.length).length = B.M - recs.length
    rw [List.length_drop, ok.len q hq]
  · exact ok.d0 q hq d (List.mem_of_mem_drop hd)
theorem restR_succ (k : Nat) : restR R (k + 1) = tailR (restR R k) := by
  unfold restR tailR
  rw [List.map_map]
  refine List.map_congr_left fun r _ => ?_
  show (⟨r.site, r.dem.drop (k + 1)⟩ : Right) = ⟨r.site, (r.dem.drop k).drop 1⟩
  rw [List.drop_drop]
theorem restR_zero : restR R 0 = R := by
  unfold restR
  conv => rhs; rw [← List.map_id R]
  rfl
theorem infl_ext (ok : B.Ok) {s : Nat} (hs : s < B.n) : (List.range B.M).map (fun i => B.infl s i) = (B.site s).infl := by
  refine List.ext_getElem? fun i => ?_
  rw [List.getElem?_map]
  by_cases h : i < B.M
  · rw [List.getElem?_range h, List.getElem?_eq_getElem (by rw [ok.infl s hs]; exact h)]
    show some ((B.site s).infl.getD i 0) = _
    rw [List.getD_eq_getElem?_getD, List.getElem?_eq_getElem (by rw [ok.infl s hs]; exact h)]
    rfl
  · rw [List.getElem?_eq_none (by simp; omega), List.getElem?_eq_none (by rw [ok.infl s hs]; omega)]; rfl
theorem site_ext : (List.range B.n).map (fun s => B.site s) = B.S := by
  refine List.ext_getElem? fun i => ?_
  rw [List.getElem?_map]
  by_cases h : i < B.S.length
  · rw [List.getElem?_range (show i < B.n from h), List.getElem?_eq_getElem h]
    show some (B.S.getD i Site.none) = _
    rw [List.getD_eq_getElem?_getD, List.getElem?_eq_getElem h]
    rfl
  · rw [List.getElem?_eq_none (by simp; exact Nat.le_of_not_lt h), List.getElem?_eq_none (by omega)]; rfl
theorem rest_zero (ok : B.Ok) : restB B [] (fun s => B.infl s 0) = B := by
  have e : (List.range B.n).map (restSite B [] fun s => B.infl s 0) = B.S := by
    rw [← site_ext]
    refine List.map_congr_left fun s hs => ?_
    have hs : s < B.n := List.mem_range.mp hs
    have a0 : ∀ i, arrive B [] s i = 0 := fun i => sumL_zero fun j _ => if_neg fun z => absurd z.2.2 (Nat.not_lt_zero _)
    have e2 : (restSite B [] (fun s => B.infl s 0) s).infl = (B.site s).infl := by
      rw [← infl_ext ok hs]
      unfold restSite
      show (List.range (B.M - 0)).map _ = _
      refine List.map_congr_left fun i _ => ?_
      rw [a0]
      show (if i = 0 then B.infl s 0 else B.infl s (0 + i)) + 0 = B.infl s i
      by_cases q : i = 0
      · rw [if_pos q, q]; omega
      · rw [if_neg q, Nat.zero_add]; omega
    have e3 : (restSite B [] (fun s => B.infl s 0) s).held = (B.site s).held := rfl
    show ({ B.site s with held := (restSite B [] (fun s => B.infl s 0) s).held, infl := (restSite B [] (fun s => B.infl s 0) s).infl } : Site) = B.site s
    rw [e2, e3]
  unfold restB
  rw [e]
  rfl
theorem mkRec_rel {as : List Int} {f : AId → Int} {s : Nat} (hs : s < B.n) : (mkRec B R as f).rel.getD s 0 = relOf B f s 0 := map_getD hs
theorem mkRec_sto {as : List Int} {f : AId → Int} {s : Nat} (hs : s < B.n) : (mkRec B R as f).sto.getD s 0 = stoOf B R as f s 0 := map_getD hs
theorem mkRec_d {as : List Int} {f : AId → Int} {r : Nat} (hr : r < R.length) : (mkRec B R as f).d.getD r 0 = dOf B as r 0 := map_getD hr
/-- one month later, as forecast -/
theorem rest_tail {recs : List Rec} {y : Nat → Int} {r : Rec} {rel0 sto0 : Nat → Int} (h1 : ∀ s, s < B.n → r.rel.getD s 0 = rel0 s) (h2 : ∀ s, s < B.n → r.sto.getD s 0 = sto0 s) :
    restB B (recs ++ [r]) (fun s => B.infl s (recs.length + 1)) = tailB (restB B recs y) rel0 sto0 := by
  unfold tailB
  rw [rest_n, rest_M]
  have e : (List.range B.n).map (restSite B (recs ++ [r]) fun s => B.infl s (recs.length + 1)) = (List.range B.n).map (tailSite (restB B recs y) rel0 sto0) := by
    refine List.map_congr_left fun s hs => ?_
    have hs : s < B.n := List.mem_range.mp hs
    unfold restSite tailSite
    rw [rest_site hs]
    have e1 : heldOf B (recs ++ [r]) s = sto0 s := by
      unfold heldOf recSto
      rw [if_neg (by simp), List.length_append]
      show (rcd (recs ++ [r]) (recs.length + 1 - 1)).sto.getD s 0 = _
      rw [Nat.add_sub_cancel, rcd_new, h2 s hs]
    have e2 : ((List.range (B.M - (recs ++ [r]).length)).map fun i => (if i = 0 then B.infl s (recs.length + 1) else B.infl s ((recs ++ [r]).length + i)) + arrive B (recs ++ [r]) s ((recs ++ [r]).length + i)) =
        (List.range ((restB B recs y).M - 1)).map fun i => (restB B recs y).infl s (i + 1) + sumL (List.range (restB B recs y).n) fun j => if ((restB B recs y).site j).nxt = some s ∧ ((restB B recs y).site j).tr = i + 1 then rel0 j else 0 := by
      rw [List.length_append, rest_M, rest_n]
      show (List.range (B.M - (recs.length + 1))).map _ = (List.range (B.M - recs.length - 1)).map _
      rw [show B.M - recs.length - 1 = B.M - (recs.length + 1) by omega]
      refine List.map_congr_left fun i hi => ?_
      have hi : i < B.M - (recs.length + 1) := List.mem_range.mp hi
      rw [rest_infl hs (by omega), if_neg (show ¬ i + 1 = 0 by omega)]
      have b : (if i = 0 then B.infl s (recs.length + 1) else B.infl s (recs.length + [r].length + i)) = B.infl s (recs.length + (i + 1)) := by
        show (if i = 0 then B.infl s (recs.length + 1) else B.infl s (recs.length + 1 + i)) = _
        split
        · rename_i q; rw [q]
        · rw [show recs.length + 1 + i = recs.length + (i + 1) by omega]
      rw [b, show recs.length + [r].length + i = recs.length + (i + 1) by show recs.length + 1 + i = _; omega, Int.add_assoc]
      congr 1
      unfold arrive
      rw [← sumL_add]
      refine sumL_congr fun j hj => ?_
      have hj : j < B.n := List.mem_range.mp hj
      rw [rest_nxt, rest_tr, List.length_append]
      show (if (B.site j).nxt = some s ∧ (B.site j).tr ≤ recs.length + (i + 1) ∧ recs.length + (i + 1) - (B.site j).tr < recs.length + 1 then _ else _) = _
      by_cases q1 : (B.site j).nxt = some s
      · by_cases q2 : (B.site j).tr ≤ recs.length + (i + 1)
        · by_cases q3 : recs.length + (i + 1) - (B.site j).tr < recs.length
          · rw [if_pos ⟨q1, q2, by omega⟩, if_pos ⟨q1, q2, q3⟩, if_neg (by omega)]
            unfold recRel
            rw [rcd_old q3]; omega
          · by_cases q4 : (B.site j).tr = i + 1
            · rw [if_pos ⟨q1, q2, by omega⟩, if_neg (fun z => q3 z.2.2), if_pos ⟨q1, q4⟩]
              unfold recRel
              rw [show recs.length + (i + 1) - (B.site j).tr = recs.length by omega, rcd_new, h1 j hj]; omega
            · rw [if_neg (by omega), if_neg (fun z => q3 z.2.2), if_neg (by omega)]; rfl
        · rw [if_neg (fun z => q2 z.2.1), if_neg (fun z => q2 z.2.1), if_neg (by omega)]; rfl
      · rw [if_neg (fun z => q1 z.1), if_neg (fun z => q1 z.1), if_neg (fun z => q1 z.1)]; rfl
    rw [e1, e2]
    rfl
  unfold restB
  rw [e, List.length_append]
  show Basin.mk (B.M - (recs.length + 1)) _ = _
  rw [show B.M - (recs.length + 1) = B.M - recs.length - 1 by omega]
  rfl
theorem Run.len {recs : List Rec} (h : Run B R x recs) : recs.length ≤ B.M := by
  cases h with
  | nil => exact Nat.zero_le _
  | snoc _ h _ => rw [List.length_append]; exact h
theorem Run.ok (okB : B.Ok) (okR : RightsOk B R) (hx : ∀ m s, m < B.M → s < B.n → 0 ≤ x m s) {recs : List Rec} (h : Run B R x recs) : RecsOk B recs := by
  induction h with
  | nil => exact ⟨fun s m _ h => absurd h (Nat.not_lt_zero _), fun s m _ h => absurd h (Nat.not_lt_zero _)⟩
  | @snoc recs as f h hk L ih =>
    have ok' := rest_ok okB ih (y := x recs.length) (hx _ · hk)
    have M0 := led_ok ok' (restR_ok okR) (by rw [rest_M]; omega) L (m := 0) (by rw [rest_M]; omega)
    refine ⟨fun s m hs hm => ?_, fun s m hs hm => ?_⟩
    · unfold recRel
      by_cases q : m < recs.length
      · rw [rcd_old q]; exact ih.rel s m hs q
      · have : m = recs.length := by rw [List.length_append] at hm; simp at hm; omega
        rw [this, rcd_new, mkRec_rel (by rw [rest_n]; exact hs)]
        exact M0.rel0 s (by rw [rest_n]; exact hs)
    · unfold recSto
      by_cases q : m < recs.length
      · rw [rcd_old q]; exact ih.sto s m hs q
      · have : m = recs.length := by rw [List.length_append] at hm; simp at hm; omega
        rw [this, rcd_new, mkRec_sto (by rw [rest_n]; exact hs)]
        exact (M0.room s (by rw [rest_n]; exact hs)).1

/-! ### as forecast -/
theorem Run.forecast (okB : B.Ok) (okR : RightsOk B R) {as0 : List Int} {f0 : AId → Int} (L0 : Led B.net .src (claims B R) as0 f0) {recs : List Rec} (h : Run B R (fun m s => B.infl s m) recs) :
    (∀ m, m < recs.length → ∀ r, r < R.length → recD recs r m = dOf B as0 r m) ∧
    (recs.length < B.M → ∃ f, Led (restB B recs fun s => B.infl s recs.length).net .src (claims (restB B recs fun s => B.infl s recs.length) (restR R recs.length))
      (amts (restB B recs fun s => B.infl s recs.length) (restR R recs.length) (fun r m => dOf B as0 r (recs.length + m)) (lastOf B R as0)) f) := by
  induction h with
  | nil =>
    refine ⟨fun m h => absurd h (Nat.not_lt_zero _), fun hM => ⟨f0, ?_⟩⟩
    show Led (restB B [] fun s => B.infl s 0).net .src (claims (restB B [] fun s => B.infl s 0) (restR R 0)) (amts (restB B [] fun s => B.infl s 0) (restR R 0) (fun r m => dOf B as0 r (0 + m)) (lastOf B R as0)) f0
    rw [rest_zero okB, restR_zero]
    have : amts B R (fun r m => dOf B as0 r (0 + m)) (lastOf B R as0) = as0 := by
      rw [amts_of hM L0.len]
      exact parts_congr (fun r m hr hm => by rw [Nat.zero_add, ← amts_of hM L0.len]) fun s hs => by rw [← amts_of hM L0.len]
    rw [this]
    exact L0
  | @snoc recs as f h hk L ih =>
    obtain ⟨ih1, ih2⟩ := ih
    obtain ⟨g, Lg⟩ := ih2 hk
    have e := L.unique Lg
    subst e
    have rok := h.ok okB okR fun m s _ _ => okB.i0 s m
    have ok' := rest_ok okB rok (y := fun s => B.infl s recs.length) fun s _ => okB.i0 s _
    have okR' : RightsOk (restB B recs fun s => B.infl s recs.length) (restR R recs.length) := restR_ok okR
    refine ⟨fun m hm r hr => ?_, fun hM => ?_⟩
    · unfold recD
      by_cases q : m < recs.length
      · rw [rcd_old q]; exact ih1 m q r hr
      · have : m = recs.length := by rw [List.length_append] at hm; simp at hm; omega
        subst this
        rw [rcd_new, mkRec_d (by rw [restR_len]; exact hr), dOf_amts (by rw [restR_len]; exact hr) (by rw [rest_M]; omega)]
        rfl
    · rw [List.length_append] at hM ⊢
      have hM : recs.length + 1 < B.M := hM
      have T := tail_led ok' okR' (by rw [rest_M]; omega) L
      show ∃ f', Led (restB B _ fun s => B.infl s (recs.length + 1)).net .src (claims (restB B _ fun s => B.infl s (recs.length + 1)) (restR R (recs.length + 1))) (amts (restB B _ fun s => B.infl s (recs.length + 1)) (restR R (recs.length + 1)) (fun r m => dOf B as0 r (recs.length + 1 + m)) (lastOf B R as0)) f'
      rw [rest_tail (y := fun s => B.infl s recs.length) (fun s hs => mkRec_rel (by rw [rest_n]; exact hs)) (fun s hs => mkRec_sto (by rw [rest_n]; exact hs)), restR_succ]
      refine ⟨tailF (restB B recs fun s => B.infl s recs.length) f, ?_⟩
      have eA : ∀ (T : Basin), T.M = B.M - recs.length - 1 → T.n = B.n → amts T (tailR (restR R recs.length)) (fun r m => dOf (restB B recs fun s => B.infl s recs.length) (amts (restB B recs fun s => B.infl s recs.length) (restR R recs.length) (fun r m => dOf B as0 r (recs.length + m)) (lastOf B R as0)) r (m + 1))
          (lastOf (restB B recs fun s => B.infl s recs.length) (restR R recs.length) (amts (restB B recs fun s => B.infl s recs.length) (restR R recs.length) (fun r m => dOf B as0 r (recs.length + m)) (lastOf B R as0))) =
          amts T (tailR (restR R recs.length)) (fun r m => dOf B as0 r (recs.length + 1 + m)) (lastOf B R as0) := fun T hT hn => by
        unfold amts
        refine parts_congr (fun r m hr hm => ?_) fun s hs => ?_
        · rw [tailR_len] at hr
          rw [hT] at hm
          have := dOf_amts (B := restB B recs fun s => B.infl s recs.length) (R := restR R recs.length) (d := fun r m => dOf B as0 r (recs.length + m)) (last := lastOf B R as0) hr (m := m + 1) (by rw [rest_M]; omega)
          unfold amts at this
          rw [this]
          show dOf B as0 r (recs.length + (m + 1)) = _
          rw [show recs.length + (m + 1) = recs.length + 1 + m by omega]
        · rw [hn] at hs
          have := lastOf_amts (B := restB B recs fun s => B.infl s recs.length) (R := restR R recs.length) (d := fun r m => dOf B as0 r (recs.length + m)) (last := lastOf B R as0) (s := s) (by rw [rest_n]; exact hs)
          unfold amts at this
          exact this
      rw [eA _ (by rw [tail_M, rest_M]) (by rw [tail_n, rest_n])] at T
      exact T

/-! ### whatever comes -/
def turned (B : Basin) (x : Nat → Nat → Int) : Basin := ⟨B.M, (List.range B.n).map fun s => { B.site s with infl := (List.range B.M).map fun m => x m s }⟩
theorem turned_n : (turned B x).n = B.n := by unfold turned Basin.n; simp
theorem turned_M : (turned B x).M = B.M := rfl
theorem turned_site {s : Nat} (hs : s < B.n) : (turned B x).site s = { B.site s with infl := (List.range B.M).map fun m => x m s } := map_getD hs
theorem turned_nxt (s : Nat) : ((turned B x).site s).nxt = (B.site s).nxt := by
  by_cases hs : s < B.n
  · rw [turned_site hs]
  · rw [site_none hs, site_none (by rw [turned_n]; exact hs)]
theorem turned_tr (s : Nat) : ((turned B x).site s).tr = (B.site s).tr := by
  by_cases hs : s < B.n
  · rw [turned_site hs]
  · rw [site_none hs, site_none (by rw [turned_n]; exact hs)]
theorem turned_reach (s : Nat) : ((turned B x).site s).reach = (B.site s).reach := by
  by_cases hs : s < B.n
  · rw [turned_site hs]
  · rw [site_none hs, site_none (by rw [turned_n]; exact hs)]
theorem turned_room (s : Nat) : ((turned B x).site s).room = (B.site s).room := by
  by_cases hs : s < B.n
  · rw [turned_site hs]
  · rw [site_none hs, site_none (by rw [turned_n]; exact hs)]
theorem turned_held (s : Nat) : ((turned B x).site s).held = (B.site s).held := by
  by_cases hs : s < B.n
  · rw [turned_site hs]
  · rw [site_none hs, site_none (by rw [turned_n]; exact hs)]
theorem turned_infl {s m : Nat} (hs : s < B.n) (hm : m < B.M) : (turned B x).infl s m = x m s := by
  unfold Basin.infl
  rw [turned_site hs]
  exact map_getD hm
theorem turned_ok (ok : B.Ok) (hx : ∀ m s, m < B.M → s < B.n → 0 ≤ x m s) : (turned B x).Ok := by
  refine ⟨fun s t hs e => ?_, fun s hs => ?_, fun s m => ?_, fun s => ?_, fun s => ?_, fun s c e => ?_⟩
  · rw [turned_n] at hs ⊢
    rw [turned_nxt] at e
    exact ok.nxt s t hs e
  · rw [turned_n] at hs
    rw [turned_site hs, turned_M]
    simp
  · by_cases hs : s < B.n
    · by_cases hm : m < B.M
      · rw [turned_infl hs hm]; exact hx m s hm hs
      · unfold Basin.infl
        rw [turned_site hs]
        simp only
        rw [List.getD_eq_getElem?_getD, List.getElem?_eq_none (by simp; omega)]
        exact Int.le_refl _
    · unfold Basin.infl
      rw [site_none (by rw [turned_n]; exact hs)]
      exact Int.le_refl _
  · rw [turned_held]; exact ok.held s
  · rw [turned_room]; exact ok.room s
  · rw [turned_reach] at e; exact ok.reach s c e
theorem turned_rok (ok : RightsOk B R) : RightsOk (turned B x) R := ⟨fun r hr => by rw [turned_n]; exact ok.site r hr, ok.len, ok.d0⟩
theorem turned_self (ok : B.Ok) : turned B (fun m s => B.infl s m) = B := by
  have e : (List.range B.n).map (fun s => ({ B.site s with infl := (List.range B.M).map fun m => B.infl s m } : Site)) = B.S := by
    rw [← site_ext]
    refine List.map_congr_left fun s hs => ?_
    rw [infl_ext ok (List.mem_range.mp hs)]
  unfold turned
  rw [e]
theorem month_congr {d rel sto d' rel' sto' : Nat → Nat → Int} {m : Nat} (P : MonthOk B R d rel sto m) (h1 : ∀ r, d' r m = d r m) (h2 : ∀ s m', m' ≤ m → rel' s m' = rel s m') (h3 : ∀ s m', m' ≤ m → sto' s m' = sto s m') : MonthOk B R d' rel' sto' m := by
  refine ⟨fun r hr => by rw [h1]; exact P.d0 r hr, fun s hs => by rw [h2 s m (Nat.le_refl _)]; exact P.rel0 s hs, fun s hs e => by rw [h2 s m (Nat.le_refl _)]; exact P.out s hs e, fun s c hs e => by rw [h2 s m (Nat.le_refl _)]; exact P.reach s c hs e,
    fun s hs => by rw [h3 s m (Nat.le_refl _)]; exact P.room s hs, fun s hs => ?_⟩
  have e1 : used R d' rel' sto' s m = used R d rel sto s m := by
    unfold used
    rw [h2 s m (Nat.le_refl _), h3 s m (Nat.le_refl _)]
    congr 1
    exact sumL_congr fun r _ => by rw [h1]
  have e2 : B.recv rel' sto' s m = B.recv rel sto s m := by
    unfold Basin.recv Basin.down
    rw [h3 s (m - 1) (by omega)]
    congr 1
    exact sumL_congr fun j _ => by rw [h2 j _ (Nat.sub_le _ _)]
  rw [e1, e2]
  exact P.bal s hs
/-- all closed months together -/
theorem Run.plan (okB : B.Ok) (okR : RightsOk B R) (hx : ∀ m s, m < B.M → s < B.n → 0 ≤ x m s) {recs : List Rec} (h : Run B R x recs) : ∀ m, m < recs.length → MonthOk (turned B x) R (recD recs) (recRel recs) (recSto recs) m := by
  induction h with
  | nil => exact fun m h => absurd h (Nat.not_lt_zero _)
  | @snoc recs as f h hk L ih =>
    intro m hm
    by_cases q : m < recs.length
    · exact month_congr (ih m q) (fun r => by unfold recD; rw [rcd_old q]) (fun s m' hm' => by unfold recRel; rw [rcd_old (by omega)]) fun s m' hm' => by unfold recSto; rw [rcd_old (by omega)]
    · have : m = recs.length := by rw [List.length_append] at hm; simp at hm; omega
      subst this
      have rok := h.ok okB okR hx
      have ok' := rest_ok okB rok (y := x recs.length) (hx _ · hk)
      have P := led_ok ok' (restR_ok okR) (by rw [rest_M]; omega) L (m := 0) (by rw [rest_M]; omega)
      generalize eB : restB B recs (x recs.length) = T at *
      generalize eR : restR R recs.length = S at *
      have Tn : T.n = B.n := by rw [← eB]; exact rest_n
      have TM : T.M = B.M - recs.length := by rw [← eB]; rfl
      have Sl : S.length = R.length := by rw [← eR]; exact restR_len _
      have n1 : ∀ r, r < R.length → recD (recs ++ [mkRec T S as f]) r recs.length = dOf T as r 0 := fun r hr => by
        unfold recD; rw [rcd_new, mkRec_d (by rw [Sl]; exact hr)]
      have n2 : ∀ s, s < B.n → recRel (recs ++ [mkRec T S as f]) s recs.length = relOf T f s 0 := fun s hs => by
        unfold recRel; rw [rcd_new, mkRec_rel (by rw [Tn]; exact hs)]
      have n3 : ∀ s, s < B.n → recSto (recs ++ [mkRec T S as f]) s recs.length = stoOf T S as f s 0 := fun s hs => by
        unfold recSto; rw [rcd_new, mkRec_sto (by rw [Tn]; exact hs)]
      have Tlet : ∀ s, (turned B x).letTo s recs.length = none → T.letTo s 0 = none := fun s e => by
        rw [← eB]
        unfold Basin.letTo at e ⊢
        rw [turned_nxt, turned_tr, turned_M] at e
        rw [rest_nxt, rest_tr, rest_M]
        cases z : (B.site s).nxt with
        | none => rfl
        | some t =>
          rw [z] at e
          simp only at e ⊢
          split at e
          · cases e
          · rw [if_neg (by omega)]
      refine ⟨fun r hr => ?_, fun s hs => ?_, fun s hs e => ?_, fun s c hs e => ?_, fun s hs => ?_, fun s hs => ?_⟩
      · rw [n1 r hr]
        have := P.d0 r (by rw [Sl]; exact hr)
        rw [← eR, restR_rt hr] at this
        have e : ((rt R r).dem.drop recs.length).getD 0 0 = (rt R r).dem.getD recs.length 0 := by
          rw [List.getD_eq_getElem?_getD, List.getElem?_drop, List.getD_eq_getElem?_getD, Nat.add_zero]
        rw [← e]
        exact this
      · rw [turned_n] at hs
        rw [n2 s hs]; exact P.rel0 s (by rw [Tn]; exact hs)
      · rw [turned_n] at hs
        rw [n2 s hs]; exact P.out s (by rw [Tn]; exact hs) (Tlet s e)
      · rw [turned_n] at hs
        rw [turned_reach] at e
        rw [n2 s hs]; exact P.reach s c (by rw [Tn]; exact hs) (by rw [← eB, rest_reach]; exact e)
      · rw [turned_n] at hs
        rw [n3 s hs, turned_room]
        have := P.room s (by rw [Tn]; exact hs)
        rw [← eB, rest_room] at this
        rw [← eB]
        exact this
      · rw [turned_n] at hs
        have b := P.bal s (by rw [Tn]; exact hs)
        have u : used R (recD (recs ++ [mkRec T S as f])) (recRel (recs ++ [mkRec T S as f])) (recSto (recs ++ [mkRec T S as f])) s recs.length = used S (dOf T as) (relOf T f) (stoOf T S as f) s 0 := by
          unfold used
          rw [n2 s hs, n3 s hs, Sl]
          congr 1
          refine sumL_congr fun r hr => ?_
          have hr : r < R.length := List.mem_range.mp hr
          rw [n1 r hr, ← eR, restR_rt hr]
        rw [u]
        refine Int.le_trans b (Int.le_of_eq ?_)
        unfold Basin.recv
        have s1 : T.supply s 0 = x recs.length s + arrive B recs s recs.length + heldOf B recs s := by
          rw [← eB]
          unfold Basin.supply
          rw [rest_infl hs (by omega), rest_held hs]
          rfl
        have s2 : (turned B x).supply s recs.length = x recs.length s + if recs.length = 0 then (B.site s).held else 0 := by
          unfold Basin.supply
          rw [turned_infl hs hk, turned_held]
        have s3 : (if recs.length = 0 then (B.site s).held else 0) + (if recs.length = 0 then 0 else recSto (recs ++ [mkRec T S as f]) s (recs.length - 1)) = heldOf B recs s := by
          unfold heldOf
          by_cases q : recs.length = 0
          · rw [if_pos q, if_pos q, if_pos q]; omega
          · rw [if_neg q, if_neg q, if_neg q]
            unfold recSto
            rw [rcd_old (by omega)]; omega
        have s4 : (turned B x).down (recRel (recs ++ [mkRec T S as f])) s recs.length = arrive B recs s recs.length + T.down (relOf T f) s 0 := by
          unfold Basin.down arrive
          rw [turned_n, Tn, ← sumL_add]
          refine sumL_congr fun j hj => ?_
          have hj : j < B.n := List.mem_range.mp hj
          rw [turned_nxt, turned_tr, show (T.site j).nxt = (B.site j).nxt by rw [← eB]; exact rest_nxt j, show (T.site j).tr = (B.site j).tr by rw [← eB]; exact rest_tr j]
          by_cases q1 : (B.site j).nxt = some s
          · by_cases q2 : (B.site j).tr = 0
            · rw [if_pos ⟨q1, by omega⟩, if_neg (by omega), if_pos ⟨q1, by omega⟩, q2]
              show recRel _ j (recs.length - 0) = 0 + relOf T f j (0 - 0)
              rw [Nat.sub_zero, n2 j hj, Int.zero_add]
            · by_cases q3 : (B.site j).tr ≤ recs.length
              · rw [if_pos ⟨q1, q3⟩, if_pos ⟨q1, q3, by omega⟩, if_neg (by omega)]
                unfold recRel
                rw [rcd_old (by omega)]; omega
              · rw [if_neg (fun z => q3 z.2), if_neg (fun z => q3 z.2.1), if_neg (by omega)]; rfl
          · rw [if_neg (fun z => q1 z.1), if_neg (fun z => q1 z.1), if_neg (fun z => q1 z.1)]; rfl
        rw [s1, s2, s4, ← s3]
        simp only [if_true]
        omega
end
end HW
end
section
/-! HWRegs: the law's own sets of cells, and the amounts that it finds by them. -/
namespace HW
def toN (c : Nat × Nat) : Node := Node.cell c.1 c.2
theorem toN_inj {a b : Nat × Nat} (h : toN a = toN b) : a = b := by
  obtain ⟨a1, a2⟩ := a
  obtain ⟨b1, b2⟩ := b
  have : Node.cell a1 a2 = Node.cell b1 b2 := h
  cases this; rfl
theorem mem_toN {c : Nat × Nat} {row : List (Nat × Nat)} : toN c ∈ row.map toN ↔ c ∈ row := by
  rw [List.mem_map]
  exact ⟨fun ⟨d, hd, e⟩ => toN_inj e ▸ hd, fun h => ⟨c, h, rfl⟩⟩
/-! ### all parts of a list -/
def rowsFrom {α : Type} (rows : List (List α)) (cs : List α) : List (List α) := cs.foldl (fun rows c => rows ++ rows.map fun row => row ++ [c]) rows
section
variable {α : Type}
theorem rowsFrom_cons (rows : List (List α)) (c : α) (r : List α) : rowsFrom rows (c :: r) = rowsFrom (rows ++ rows.map fun row => row ++ [c]) r := rfl
theorem rowsFrom_len : ∀ (cs : List α) (rows : List (List α)), (rowsFrom rows cs).length = rows.length * 2 ^ cs.length
  | [], rows => by simp [rowsFrom]
  | c :: r, rows => by
    rw [rowsFrom_cons, rowsFrom_len r, List.length_append, List.length_map, List.length_cons, Nat.pow_succ, Nat.mul_comm (2 ^ r.length) 2, ← Nat.mul_assoc]
    congr 1
    omega
theorem rowsFrom_filter (p : α → Bool) : ∀ (cs : List α) (rows : List (List α)) (a : List α), a ∈ rows → a ++ cs.filter p ∈ rowsFrom rows cs
  | [], rows, a, h => by simpa [rowsFrom] using h
  | c :: r, rows, a, h => by
    rw [rowsFrom_cons]
    by_cases q : p c = true
    · rw [List.filter_cons, if_pos q]
      have := rowsFrom_filter p r (rows ++ rows.map fun row => row ++ [c]) (a ++ [c]) (List.mem_append_right _ (List.mem_map.mpr ⟨a, h, rfl⟩))
      rw [List.append_assoc] at this
      exact this
    · rw [List.filter_cons, if_neg q]
      exact rowsFrom_filter p r _ a (List.mem_append_left _ h)
theorem rowsFrom_sub : ∀ (cs : List α) (rows : List (List α)) (row : List α), row ∈ rowsFrom rows cs → ∃ a b, a ∈ rows ∧ b.Sublist cs ∧ row = a ++ b
  | [], rows, row, h => ⟨row, [], h, List.Sublist.slnil, by simp⟩
  | c :: r, rows, row, h => by
    rw [rowsFrom_cons] at h
    obtain ⟨a, b, ha, hb, e⟩ := rowsFrom_sub r _ row h
    rcases List.mem_append.mp ha with ha | ha
    · exact ⟨a, b, ha, hb.cons c, e⟩
    · obtain ⟨a', ha', e'⟩ := List.mem_map.mp ha
      refine ⟨a', c :: b, ha', hb.cons_cons c, ?_⟩
      rw [e, ← e', List.append_assoc]; rfl
theorem rowsFrom_head : ∀ (cs : List α) (t : List (List α)), ∃ t', rowsFrom ([] :: t) cs = [] :: t'
  | [], t => ⟨t, rfl⟩
  | c :: r, t => rowsFrom_head r _
end
def rowsOf {α : Type} (cs : List α) : List (List α) := rowsFrom [[]] cs
theorem rowsOf_tail {α : Type} (cs : List α) : rowsOf cs = [] :: (rowsOf cs).tail := by
  obtain ⟨t, e⟩ := rowsFrom_head cs ([] : List (List α))
  unfold rowsOf
  rw [e]; rfl
theorem rowsOf_len {α : Type} (cs : List α) : (rowsOf cs).length = 2 ^ cs.length := by
  unfold rowsOf
  rw [rowsFrom_len]; simp
/-! ### what can enter a set, as the law reckons it -/
section
variable (B : Basin) (row : List (Nat × Nat))
def comes (k m j : Nat) : Prop := (B.site j).nxt = some k ∧ (B.site j).tr ≤ m ∧ ¬ (j, m - (B.site j).tr) ∈ row
instance (k m j : Nat) : Decidable (comes B row k m j) := by unfold comes; infer_instance
def enterJ (k m : Nat) : List Nat → Int → Option Int
  | [], t => some t
  | j :: r, t => if comes B row k m j then (match (B.site j).reach with
      | none => none
      | some c => enterJ k m r (t + c)) else enterJ k m r t
def own (k m : Nat) : Int := B.infl k m + (if m = 0 then (B.site k).held else if (k, m - 1) ∈ row then 0 else (B.site k).room)
def enterC : List (Nat × Nat) → Int → Option Int
  | [], t => some t
  | c :: r, t => match enterJ B row c.1 c.2 (List.range c.1) (t + own B row c.1 c.2) with
    | none => none
    | some t' => enterC r t'
def lawEnters : Option Int := enterC B row row 0
def comeSum (k m : Nat) (l : List Nat) : Int := sumL l fun j => if comes B row k m j then (B.site j).reach.getD 0 else 0
variable {B row}
theorem enterJ_some {k m : Nat} : ∀ {l : List Nat} {t t' : Int}, enterJ B row k m l t = some t' → t' = t + comeSum B row k m l ∧ ∀ j ∈ l, comes B row k m j → ∃ c, (B.site j).reach = some c
  | [], t, t', h => by
    have h : some t = some t' := h
    cases h
    exact ⟨by simp [comeSum], by simp⟩
  | j :: r, t, t', h => by
    unfold enterJ at h
    by_cases q : comes B row k m j
    · rw [if_pos q] at h
      cases e : (B.site j).reach with
      | none => rw [e] at h; cases h
      | some c =>
        rw [e] at h
        obtain ⟨h1, h2⟩ := enterJ_some (l := r) h
        refine ⟨?_, fun i hi qi => ?_⟩
        · rw [h1]; unfold comeSum; rw [sumL_cons, if_pos q, e]; simp only [Option.getD_some]; omega
        · rcases List.mem_cons.mp hi with rfl | hi
          · exact ⟨c, e⟩
          · exact h2 i hi qi
    · rw [if_neg q] at h
      obtain ⟨h1, h2⟩ := enterJ_some (l := r) h
      refine ⟨?_, fun i hi qi => ?_⟩
      · rw [h1]; unfold comeSum; rw [sumL_cons, if_neg q]; omega
      · rcases List.mem_cons.mp hi with rfl | hi
        · exact absurd qi q
        · exact h2 i hi qi
theorem enterJ_none {k m : Nat} : ∀ {l : List Nat} {t : Int}, enterJ B row k m l t = none → ∃ j ∈ l, comes B row k m j ∧ (B.site j).reach = none
  | [], t, h => by cases h
  | j :: r, t, h => by
    unfold enterJ at h
    by_cases q : comes B row k m j
    · rw [if_pos q] at h
      cases e : (B.site j).reach with
      | none => exact ⟨j, by simp, q, e⟩
      | some c =>
        rw [e] at h
        obtain ⟨i, hi, qi⟩ := enterJ_none (l := r) h
        exact ⟨i, by simp [hi], qi⟩
    · rw [if_neg q] at h
      obtain ⟨i, hi, qi⟩ := enterJ_none (l := r) h
      exact ⟨i, by simp [hi], qi⟩
theorem enterC_some : ∀ {l : List (Nat × Nat)} {t t' : Int}, enterC B row l t = some t' → t' = t + sumL l (fun c => own B row c.1 c.2 + comeSum B row c.1 c.2 (List.range c.1)) ∧ ∀ c ∈ l, ∀ j, j < c.1 → comes B row c.1 c.2 j → ∃ k, (B.site j).reach = some k
  | [], t, t', h => by
    have h : some t = some t' := h
    cases h
    exact ⟨by simp, by simp⟩
  | c :: r, t, t', h => by
    unfold enterC at h
    cases e : enterJ B row c.1 c.2 (List.range c.1) (t + own B row c.1 c.2) with
    | none => rw [e] at h; cases h
    | some t1 =>
      rw [e] at h
      obtain ⟨a1, a2⟩ := enterJ_some e
      obtain ⟨h1, h2⟩ := enterC_some (l := r) h
      refine ⟨?_, fun d hd j hj qj => ?_⟩
      · rw [h1, a1, sumL_cons]; omega
      · rcases List.mem_cons.mp hd with rfl | hd
        · exact a2 j (List.mem_range.mpr hj) qj
        · exact h2 d hd j hj qj
theorem enterC_none : ∀ {l : List (Nat × Nat)} {t : Int}, enterC B row l t = none → ∃ c ∈ l, ∃ j, j < c.1 ∧ comes B row c.1 c.2 j ∧ (B.site j).reach = none
  | [], t, h => by cases h
  | c :: r, t, h => by
    unfold enterC at h
    cases e : enterJ B row c.1 c.2 (List.range c.1) (t + own B row c.1 c.2) with
    | none =>
      obtain ⟨j, hj, q⟩ := enterJ_none e
      exact ⟨c, by simp, j, List.mem_range.mp hj, q⟩
    | some t1 =>
      rw [e] at h
      obtain ⟨d, hd, q⟩ := enterC_none (l := r) h
      exact ⟨d, by simp [hd], q⟩
end
def regs (B : Basin) : List (List Node × Int) := (rowsOf B.cells).tail.filterMap fun row => (lawEnters B row).map fun t => (row.map toN, t)
section
variable {B : Basin}
theorem sum_upto {n k : Nat} (h : k ≤ n) (f : Nat → Int) (z : ∀ j, k ≤ j → j < n → f j = 0) : sumL (List.range n) f = sumL (List.range k) f := by
  induction n with
  | zero =>
    have : k = 0 := by omega
    subst this; rfl
  | succ n ih =>
    by_cases q : k = n + 1
    · subst q; rfl
    · rw [List.range_succ, sumL_append, ih (by omega) fun j h1 h2 => z j h1 (by omega), sumL_cons, sumL_nil, z n (by omega) (by omega)]
      omega
theorem filter_sub : ∀ {l row : List (Nat × Nat)}, l.Nodup → row.Sublist l → l.filter (fun c => decide (c ∈ row)) = row
  | [], row, _, h => by
    have : row = [] := List.sublist_nil.mp h
    subst this; rfl
  | a :: l, row, nd, h => by
    obtain ⟨n1, n2⟩ := List.nodup_cons.mp nd
    cases h with
    | cons _ h =>
      have : ¬ a ∈ row := fun m => n1 (h.subset m)
      rw [List.filter_cons, if_neg (by simpa using this)]
      exact filter_sub n2 h
    | @cons_cons r _ _ h =>
      rw [List.filter_cons, if_pos (by simp)]
      congr 1
      have e : l.filter (fun c => decide (c ∈ a :: r)) = l.filter (fun c => decide (c ∈ r)) := by
        refine List.filter_congr fun c hc => ?_
        have : c ≠ a := fun z => n1 (z ▸ hc)
        simp [this]
      rw [e]
      exact filter_sub n2 h
/-- what can enter a set of cells, arc by arc and as the law reckons it -/
theorem cap_row (ok : B.Ok) {row : List (Nat × Nat)} (h : row.Sublist B.cells) : cap B.net (fun v => decide (v ∈ row.map toN)) = sumL row fun c => own B row c.1 c.2 + comeSum B row c.1 c.2 (List.range c.1) := by
  have hX : ∀ s m, (decide (Node.cell s m ∈ row.map toN) = true) ↔ (s, m) ∈ row := fun s m => by
    rw [decide_eq_true_iff]; exact mem_toN (c := (s, m))
  have e0 : cap B.net (fun v => decide (v ∈ row.map toN)) = sumL B.ids fun i => if (fun v => decide (v ∈ row.map toN)) (B.net.hd i) = true then (if decide (B.net.tl i ∈ row.map toN) = false then (B.net.most i).getD 0 else 0) else 0 := by
    refine sumL_congr fun i _ => ?_
    by_cases q1 : decide (B.net.hd i ∈ row.map toN) = true
    · rw [if_pos (show (fun v => decide (v ∈ row.map toN)) (B.net.hd i) = true from q1)]
      by_cases q2 : decide (B.net.tl i ∈ row.map toN) = false
      · rw [if_pos q2, if_pos (show enters B.net (fun v => decide (v ∈ row.map toN)) i from ⟨q1, q2⟩)]
      · rw [if_neg q2, if_neg (show ¬ enters B.net (fun v => decide (v ∈ row.map toN)) i from fun z => q2 z.2)]
    · rw [if_neg (show ¬ (fun v => decide (v ∈ row.map toN)) (B.net.hd i) = true from q1), if_neg (show ¬ enters B.net (fun v => decide (v ∈ row.map toN)) i from fun z => q1 z.1)]
  rw [e0, sum_by_hd ok (fun v => decide (v ∈ row.map toN)) fun i => if decide (B.net.tl i ∈ row.map toN) = false then (B.net.most i).getD 0 else 0]
  have e1 : sumL row (fun c => own B row c.1 c.2 + comeSum B row c.1 c.2 (List.range c.1)) = sumL B.cells fun c => if decide (c ∈ row) = true then own B row c.1 c.2 + comeSum B row c.1 c.2 (List.range c.1) else 0 := by
    rw [← sumL_filter, filter_sub cells_nodup h]
  rw [e1]
  refine sumL_congr fun c hc => ?_
  obtain ⟨s, m⟩ := c
  obtain ⟨hs, hm⟩ := mem_cells.mp hc
  have iff1 : ((fun v => decide (v ∈ row.map toN)) (Node.cell s m) = true) ↔ (decide ((s, m) ∈ row) = true) := by
    show (decide (Node.cell s m ∈ row.map toN) = true) ↔ _
    rw [hX, decide_eq_true_iff]
  simp only [iff1]
  by_cases q : decide ((s, m) ∈ row) = true
  · rw [if_pos q, if_pos q, sum_hd hs hm]
    have g1 : (if decide (B.net.tl (.src s m) ∈ row.map toN) = false then (B.net.most (.src s m)).getD 0 else 0) = B.supply s m := by
      rw [if_pos]
      · rfl
      · refine decide_eq_false fun z => ?_
        obtain ⟨d, _, e⟩ := List.mem_map.mp z
        cases e
    have g2 : (if m = 0 then (0 : Int) else if decide (B.net.tl (.sto s (m - 1)) ∈ row.map toN) = false then (B.net.most (.sto s (m - 1))).getD 0 else 0) = if m = 0 then 0 else if (s, m - 1) ∈ row then 0 else (B.site s).room := by
      by_cases z : m = 0
      · rw [if_pos z, if_pos z]
      · rw [if_neg z, if_neg z]
        have iff2 : (decide (B.net.tl (.sto s (m - 1)) ∈ row.map toN) = false) ↔ ¬ (s, m - 1) ∈ row := by
          show (decide (Node.cell s (m - 1) ∈ row.map toN) = false) ↔ _
          rw [decide_eq_false_iff_not, ← hX s (m - 1), decide_eq_true_iff]
        by_cases y : (s, m - 1) ∈ row
        · rw [if_pos y, if_neg fun w => iff2.mp w y]
        · rw [if_neg y, if_pos (iff2.mpr y)]; rfl
    have g3 : (sumL (List.range B.n) fun j => if (B.site j).nxt = some s ∧ (B.site j).tr ≤ m then (if decide (B.net.tl (.rel j (m - (B.site j).tr)) ∈ row.map toN) = false then (B.net.most (.rel j (m - (B.site j).tr))).getD 0 else 0) else 0) = comeSum B row s m (List.range s) := by
      unfold comeSum
      rw [← sum_upto (n := B.n) (k := s) (by omega) (fun j => if comes B row s m j then (B.site j).reach.getD 0 else 0) fun j h1 h2 => if_neg fun z => by
        have := (ok.nxt j s h2 z.1).1
        omega]
      refine sumL_congr fun j _ => ?_
      have iff3 : (decide (B.net.tl (.rel j (m - (B.site j).tr)) ∈ row.map toN) = false) ↔ ¬ (j, m - (B.site j).tr) ∈ row := by
        show (decide (Node.cell j (m - (B.site j).tr) ∈ row.map toN) = false) ↔ _
        rw [decide_eq_false_iff_not, ← hX j (m - (B.site j).tr), decide_eq_true_iff]
      by_cases y : (B.site j).nxt = some s ∧ (B.site j).tr ≤ m
      · rw [if_pos y]
        by_cases w : (j, m - (B.site j).tr) ∈ row
        · rw [if_neg fun u => iff3.mp u w, if_neg fun u => u.2.2 w]
        · rw [if_pos (iff3.mpr w), if_pos ⟨y.1, y.2, w⟩]; rfl
      · rw [if_neg y, if_neg fun u => y ⟨u.1, u.2.1⟩]
    rw [g1, g2, g3]
    unfold own Basin.supply
    by_cases z : m = 0
    · simp only [z, if_true]; omega
    · simp only [z, if_false]; omega
  · rw [if_neg q, if_neg q]
theorem regs_ok (ok : B.Ok) : RegsOk B.net .src (B.cells.map toN) (regs B) := by
  have sub : ∀ row ∈ rowsOf B.cells, row.Sublist B.cells := fun row h => by
    obtain ⟨a, b, ha, hb, e⟩ := rowsFrom_sub _ _ _ h
    have : a = [] := by simpa using ha
    rw [e, this]; exact hb
  refine ⟨fun r hr => ?_, fun X hX ne S => ?_⟩
  · obtain ⟨row, h1, h2⟩ := List.mem_filterMap.mp hr
    have hs := sub row (List.mem_of_mem_tail h1)
    cases e : lawEnters B row with
    | none => rw [e] at h2; cases h2
    | some t =>
      rw [e] at h2
      have h2 : some (row.map toN, t) = some r := h2
      cases h2
      obtain ⟨q1, q2⟩ := enterC_some e
      refine ⟨fun m => ?_, fun i hi en => ?_, ?_⟩
      · obtain ⟨d, _, e⟩ := List.mem_map.mp m
        cases e
      · cases i with
        | src s m => exact ⟨_, rfl⟩
        | sto s m => exact ⟨_, rfl⟩
        | rel s m =>
          obtain ⟨hs, hm, hl⟩ : s < B.n ∧ m < B.M ∧ (B.letTo s m).isSome = true := mem_ids.mp hi
          obtain ⟨c, hc⟩ := Option.isSome_iff_exists.mp hl
          obtain ⟨l1, l2, l3⟩ := letTo_eq.mp hc
          have e1 : decide (toNode (B.letTo s m) ∈ row.map toN) = true := en.1
          rw [hc, decide_eq_true_iff] at e1
          have e1 : c ∈ row := mem_toN.mp e1
          have e2 : decide (Node.cell s m ∈ row.map toN) = false := en.2
          rw [decide_eq_false_iff_not] at e2
          have e2 : ¬ (s, m) ∈ row := fun z => e2 (mem_toN.mpr z)
          have := (ok.nxt s _ hs l1).1
          exact q2 c e1 s this ⟨l1, by omega, by rw [show c.2 - (B.site s).tr = m by omega]; exact e2⟩
      · rw [cap_row ok hs, q1]; simp
  · let row := B.cells.filter fun c => X (toN c)
    have hrow : row ∈ rowsOf B.cells := by
      have := rowsFrom_filter (fun c => X (toN c)) B.cells [[]] [] (by simp)
      rw [List.nil_append] at this
      exact this
    have mem : ∀ v, v ∈ row.map toN ↔ X v = true := fun v => by
      constructor
      · intro h
        obtain ⟨c, hc, e⟩ := List.mem_map.mp h
        rw [← e]
        exact (List.mem_filter.mp hc).2
      · intro h
        obtain ⟨c, hc, e⟩ := List.mem_map.mp (hX v h)
        subst e
        exact List.mem_map.mpr ⟨c, List.mem_filter.mpr ⟨hc, h⟩, rfl⟩
    have hne : row ≠ [] := fun z => by
      obtain ⟨v, hv⟩ := ne
      have := (mem v).mpr hv
      rw [z] at this
      cases this
    have ht : row ∈ (rowsOf B.cells).tail := by
      rw [rowsOf_tail] at hrow
      rcases List.mem_cons.mp hrow with h | h
      · exact absurd h hne
      · exact h
    cases e : lawEnters B row with
    | none =>
      obtain ⟨c, hc, j, hj, ⟨c1, c2, c3⟩, q⟩ := enterC_none e
      have hcm := mem_cells.mp (show (c.1, c.2) ∈ B.cells from (List.mem_filter.mp hc).1)
      have hl : B.letTo j (c.2 - (B.site j).tr) = some (c.1, c.2) := letTo_some hcm.2 c1 c2
      have hi : AId.rel j (c.2 - (B.site j).tr) ∈ B.ids := mem_ids.mpr ⟨by omega, by omega, by rw [hl]; rfl⟩
      obtain ⟨k, hk⟩ := S _ hi ⟨by
        show X (toNode (B.letTo j (c.2 - (B.site j).tr))) = true
        rw [hl]
        exact (mem _).mp (mem_toN.mpr hc), by
        show X (Node.cell j (c.2 - (B.site j).tr)) = false
        cases z : X (Node.cell j (c.2 - (B.site j).tr)) with
        | false => rfl
        | true => exact absurd (mem_toN.mp ((mem (toN (j, c.2 - (B.site j).tr))).mpr z)) c3⟩
      have hk : (B.site j).reach = some k := hk
      rw [q] at hk; cases hk
    | some t => exact ⟨(row.map toN, t), List.mem_filterMap.mpr ⟨row, ht, by rw [e]; rfl⟩, mem⟩
/-- the law finds the greatest deliveries -/
theorem law_lg (ok : B.Ok) {R : List Right} (okR : RightsOk B R) (hM : 0 < B.M) {as : List Int} {f : AId → Int} (L : Led B.net .src (claims B R) as f) : lgRun (regs B) [] (claims B R) = ((claims B R).map (·.1)).zip as := by
  refine L.lg (regs_ok ok) (fun c hc => ?_) fun X hX S => ?_
  · obtain ⟨i, hi, e⟩ := List.mem_iff_getElem.mp hc
    have h : (claims B R)[i]? = some c := by rw [List.getElem?_eq_getElem hi, e]
    unfold claims at h
    rw [parts_get hM] at h
    by_cases q : i < R.length * B.M
    · rw [if_pos q] at h
      cases h
      have hr : i / B.M < R.length := (Nat.div_lt_iff_lt_mul hM).mpr q
      exact List.mem_map.mpr ⟨((rt R (i / B.M)).site, i % B.M), mem_cells.mpr ⟨okR.site _ (rt_mem hr), Nat.mod_lt _ hM⟩, rfl⟩
    · rw [if_neg q] at h
      by_cases q2 : i < R.length * B.M + B.n
      · rw [if_pos q2] at h
        cases h
        exact List.mem_map.mpr ⟨(i - R.length * B.M, B.M - 1), mem_cells.mpr ⟨by omega, by omega⟩, rfl⟩
      · rw [if_neg q2] at h
        cases h
  · have hY : ∀ v, (decide (v ∈ B.cells.map toN) && X v) = true → v ∈ B.cells.map toN := fun v h => by simp at h; exact List.mem_map.mpr (by simpa using h.1)
    have eq : ∀ v ∈ B.cells.map toN, (decide (v ∈ B.cells.map toN) && X v) = X v := fun v h => by rw [decide_eq_true h, Bool.true_and]
    have ends : ∀ i ∈ B.ids, (decide (B.net.hd i ∈ B.cells.map toN) && X (B.net.hd i)) = X (B.net.hd i) ∧ (decide (B.net.tl i ∈ B.cells.map toN) && X (B.net.tl i)) = X (B.net.tl i) := fun i hi => by
      obtain ⟨⟨s, m, h1, h2, h3⟩, h4⟩ := ends_cells ok hi
      refine ⟨eq _ (by rw [h3]; exact List.mem_map.mpr ⟨(s, m), mem_cells.mpr ⟨h1, h2⟩, rfl⟩), ?_⟩
      rcases h4 with h4 | ⟨s, m, h1, h2, h3⟩
      · rw [h4, hX, Bool.and_false]
      · exact eq _ (by rw [h3]; exact List.mem_map.mpr ⟨(s, m), mem_cells.mpr ⟨h1, h2⟩, rfl⟩)
    refine ⟨fun v => decide (v ∈ B.cells.map toN) && X v, hY, eq, fun i hi en => S i hi ⟨?_, ?_⟩, ?_⟩
    · rw [← (ends i hi).1]; exact en.1
    · rw [← (ends i hi).2]; exact en.2
    · refine sumL_congr fun i hi => ?_
      obtain ⟨e1, e2⟩ := ends i hi
      have : enters B.net (fun v => decide (v ∈ B.cells.map toN) && X v) i ↔ enters B.net X i := by
        unfold enters
        show (_ && _) = true ∧ (_ && _) = false ↔ _
        rw [e1, e2]
      simp only [this]
theorem claims_ne (hM : 0 < B.M) {R : List Right} (okB : B.Ok) (okR : RightsOk B R) : ∀ c ∈ claims B R, c.1 ≠ .src ∧ 0 ≤ c.2 := fun c hc => by
  obtain ⟨i, hi, e⟩ := List.mem_iff_getElem.mp hc
  have h : (claims B R)[i]? = some c := by rw [List.getElem?_eq_getElem hi, e]
  unfold claims at h
  rw [parts_get hM] at h
  by_cases q : i < R.length * B.M
  · rw [if_pos q] at h
    cases h
    refine ⟨by simp, ?_⟩
    have hr : i / B.M < R.length := (Nat.div_lt_iff_lt_mul hM).mpr q
    show 0 ≤ (rt R (i / B.M)).dem.getD (i % B.M) 0
    rw [List.getD_eq_getElem?_getD]
    cases z : (rt R (i / B.M)).dem[i % B.M]? with
    | none => exact Int.le_refl _
    | some d => exact okR.d0 _ (rt_mem hr) d (List.mem_of_getElem? z)
  · rw [if_neg q] at h
    by_cases q2 : i < R.length * B.M + B.n
    · rw [if_pos q2] at h
      cases h
      exact ⟨by simp, okB.room _⟩
    · rw [if_neg q2] at h
      cases h
theorem zero_feas (ok : B.Ok) : Feas B.net fun _ => 0 := fun i hi => by
  refine ⟨Int.le_refl _, fun c hc => ?_⟩
  cases i with
  | src s m =>
    have hc : some (B.supply s m) = some c := hc
    cases hc
    unfold Basin.supply
    have := ok.i0 s m
    have := ok.held s
    show (0 : Int) ≤ _
    split <;> omega
  | sto s m =>
    have hc : some (B.site s).room = some c := hc
    cases hc
    exact ok.room s
  | rel s m => exact ok.reach s c hc
theorem zero_gain (X : Node → Bool) : gain B.net (fun _ => 0) X = 0 := sumL_zero fun i _ => by split <;> split <;> rfl
/-- the greatest deliveries of a basin -/
theorem basin_led (ok : B.Ok) {R : List Right} (okR : RightsOk B R) (hM : 0 < B.M) : ∃ as f, Led B.net .src (claims B R) as f :=
  led_exists net_nodup (zero_feas ok) (fun X _ => zero_gain X) _ (claims_ne hM ok okR)
end
end HW
end
section
/-! HWKit: the text by its places; a def, a method, a class with all that a caller needs; short rules. -/
namespace HW
open PySem PySem.Spec PyProof.Rows L2
section
variable (P : Program) (w : World) (K : PySem.W.Frag) (mg : Str → Option Value) (base : Heap)
/-- the text of a def, where it stands -/
def FnT (x : Str) (st : Stmt) (ps : List Str) : Prop := ∃ f fd, Fun K x x st f fd ∧ mg x = some (.ref f) ∧ Binds K fd ps []
/-- a def that keeps a promise -/
def FnF (k : Nat) (x : Str) (ps : List Str) (sp : Sp) : Prop := ∃ f fd, FnOk P w K mg base CX0 k f fd ps sp ∧ mg x = some (.ref f) ∧ PySem.W.keepIn K (.ref f) = true ∧ Binds K fd ps []
def MtT (C : Addr) (m qual : Str) (st : Stmt) (ps : List Str) : Prop := ∃ f fd, Fun K m qual st f fd ∧ Meth K C m f ∧ Binds K fd ps []
def MtF (C : Addr) (k : Nat) (m : Str) (ps : List Str) (sp : Sp) : Prop := ∃ f fd, FnOk P w K mg base CX0 k f fd ps sp ∧ Meth K C m f ∧ Binds K fd ps []
def InT (C : Addr) (x qual : Str) (st : Stmt) (ps : List Str) : Prop := ∃ f fd, Fun K "__init__" qual st f fd ∧ Mk K C f ∧ mg x = some (.ref C) ∧ Binds K fd ps []
def InF (C : Addr) (k : Nat) (x : Str) (ps : List Str) (sp : Sp) : Prop := ∃ f fd, FnOk P w K mg base CX0 k f fd ps sp ∧ Mk K C f ∧ mg x = some (.ref C) ∧ Binds K fd ps []
end
section
variable {X : Cx} {k : Nat} {x m : Str} {ps : List Str} {sp : Sp} {p pos apos : Pos} {e o : Expr} {es : List Expr} {t : TA} {ta : TE} {C : Addr}
theorem pe_fn (F : FnF X.prog X.w X.K X.mg X.base k x ps sp) (hr : Room k X.A) (hg : Gl X x) (ha : PA X (e :: es) t) (hdb : (x == ("__debug__" : Str)) = false := by decide)
    (he : starEach (e :: es) X.env = (false, eval e X.env) :: starEach es X.env := by rfl) (hpl : (backTo pos (starEach es X.env)).any (·.1) = false := by rfl) : PE X (.Call (.Name x p) (e :: es) [] pos) (tCall sp [] E0 t) := by
  obtain ⟨f, fd, F, hm, kp, b⟩ := F
  exact pe_call F hr hg hm kp b .nil pass0 ha hdb he hpl
theorem pe_mt {pl : Sem Bool} (F : MtF X.prog X.w X.K X.mg X.base C k m ps sp) (c : Cls X.K C) (hr : Room k X.A) (he : PE X o ta) (ha : PA X (e :: es) t)
    (hst : starEach (e :: es) X.env = (false, eval e X.env) :: starEach es X.env := by rfl) (hpl : (backTo pos (starEach es X.env)).any (·.1) = false := by rfl)
    (ht : eval (.Call (.Attribute o m apos) (e :: es) [] pos) X.env = (do
      let ov ← eval o X.env
      standAt apos.atName
      let (f, first) ← holding [ov] (getMethod ov m pl)
      callWith pos f first (backTo pos (starEach (e :: es) X.env)) (backToKw pos (keywordEach [] X.env))) := by rfl) : PE X (.Call (.Attribute o m apos) (e :: es) [] pos) (tMeth C m sp [] E0 ta t) := by
  obtain ⟨f, fd, F, hm, b⟩ := F
  exact pe_meth he c hm F hr b .nil pass0 ha hst hpl ht
theorem pe_mt0 {pl : Sem Bool} (F : MtF X.prog X.w X.K X.mg X.base C k m ps sp) (c : Cls X.K C) (hr : Room k X.A) (he : PE X o ta)
    (ht : eval (.Call (.Attribute o m apos) [] [] pos) X.env = (do
      let ov ← eval o X.env
      standAt apos.atName
      let (f, first) ← holding [ov] (getMethod ov m pl)
      callWith pos f first (backTo pos (starEach [] X.env)) (backToKw pos (keywordEach [] X.env))) := by rfl) : PE X (.Call (.Attribute o m apos) [] [] pos) (tMeth C m sp [] E0 ta tNil) := by
  obtain ⟨f, fd, F, hm, b⟩ := F
  exact pe_meth0 he c hm F hr b .nil pass0 ht
theorem pe_mk (F : InF X.prog X.w X.K X.mg X.base C k x ps sp) (hr : Room (k + 1) X.A) (hg : Gl X x) (ha : PA X (e :: es) t) (hdb : (x == ("__debug__" : Str)) = false := by decide)
    (he : starEach (e :: es) X.env = (false, eval e X.env) :: starEach es X.env := by rfl) (hpl : (backTo pos (starEach es X.env)).any (·.1) = false := by rfl) : PE X (.Call (.Name x p) (e :: es) [] pos) (tMake C sp [] E0 t) := by
  obtain ⟨f, fd, F, M, hm, b⟩ := F
  exact pe_make M F hr hg hm b .nil pass0 ha hdb he hpl
theorem pe_gl {v : V} (h : ∃ u, X.mg x = some u ∧ RelV v u) (hg : Gl X x) (hd : (x == ("__debug__" : Str)) = false := by decide) : PE X (.Name x pos) (tC v) := by
  obtain ⟨u, hm, r⟩ := h
  exact pe_glob hg hm r hd
end
def Kon (mg : Str → Option Value) (x : Str) (v : V) : Prop := ∃ u, mg x = some u ∧ RelV v u
/-- what the top leaves: constants, built-in names not taken, the classes and their fields -/
structure Txt (K : PySem.W.Frag) (mg : Str → Option Value) (CA CN CS : Addr) : Prop where
  AMOUNT_MOST : Kon mg "AMOUNT_MOST" (.int 99)
  NAME : Kon mg "NAME" (.int 0)
  NEXT : Kon mg "NEXT" (.int 1)
  TRAVEL : Kon mg "TRAVEL" (.int 2)
  REACH : Kon mg "REACH" (.int 3)
  ROOM : Kon mg "ROOM" (.int 4)
  HELD : Kon mg "HELD" (.int 5)
  INFLOWS : Kon mg "INFLOWS" (.int 6)
  SOURCE : Kon mg "SOURCE" (.str "source")
  RECORD_RELEASES : Kon mg "RECORD_RELEASES" (.int 2)
  RECORD_STORAGES : Kon mg "RECORD_STORAGES" (.int 3)
  b_len : mg "len" = none
  b_range : mg "range" = none
  b_tuple : mg "tuple" = none
  b_list : mg "list" = none
  b_int : mg "int" = none
  b_bool : mg "bool" = none
  b_str : mg "str" = none
  b_min : mg "min" = none
  b_sum : mg "sum" = none
  b_isinstance : mg "isinstance" = none
  b_enumerate : mg "enumerate" = none
  b_zip : mg "zip" = none
  clA : Cls K CA
  clN : Cls K CN
  clS : Cls K CS
  a_tail : NoAttr K CA "tail"
  a_head : NoAttr K CA "head"
  a_most : NoAttr K CA "most"
  a_flow : NoAttr K CA "flow"
  a_is_fixed : NoAttr K CA "is_fixed"
  n_basin : NoAttr K CN "basin"
  n_storages : NoAttr K CN "storages"
  n_releases : NoAttr K CN "releases"
  n_arcs : NoAttr K CN "arcs"
  s_basin : NoAttr K CS "basin"
  s_rights : NoAttr K CS "rights"
  s_closed : NoAttr K CS "closed"
  s_lines : NoAttr K CS "lines"
end HW
end
section
/-! HWLay: what expressions and statements make of data: slots hold data, a frozen part H0 of the heap holds it. -/
namespace HW
open PySem PySem.Spec PyProof.Rows L2
abbrev Ex := Evl.Ex
abbrev Slots := L2.St
theorem Ex.rfl' {H : Hp} : Ex H H := Evl.Ex.refl H
mutual
def Dq (H : Hp) : PyData → V → Prop
  | .none, v => v = .non
  | .bool b, v => v = .bl b
  | .int i, v => v = .int i
  | .str x, v => v = .str x
  | .list ds, v => ∃ a xs, v = .ref a ∧ H a = some (.lst xs) ∧ DqAll H ds xs
  | .tuple ds, v => ∃ a xs, v = .ref a ∧ H a = some (.tup xs) ∧ DqAll H ds xs
  | .dict _, _ => False
def DqAll (H : Hp) : List PyData → List V → Prop
  | [], [] => True
  | d :: ds, v :: vs => Dq H d v ∧ DqAll H ds vs
  | [], _ :: _ => False
  | _ :: _, [] => False
end
mutual
theorem Dq.mono {H H' : Hp} (e : Ex H H') : ∀ {d : PyData} {v : V}, Dq H d v → Dq H' d v
  | .none, _, h => h
  | .bool _, _, h => h
  | .int _, _, h => h
  | .str _, _, h => h
  | .list ds, _, ⟨a, xs, e1, h1, h2⟩ => ⟨a, xs, e1, e a _ h1, DqAll.mono e h2⟩
  | .tuple ds, _, ⟨a, xs, e1, h1, h2⟩ => ⟨a, xs, e1, e a _ h1, DqAll.mono e h2⟩
  | .dict _, _, h => h.elim
theorem DqAll.mono {H H' : Hp} (e : Ex H H') : ∀ {ds : List PyData} {vs : List V}, DqAll H ds vs → DqAll H' ds vs
  | [], [], _ => trivial
  | d :: ds, v :: vs, h => ⟨Dq.mono e h.1, DqAll.mono e h.2⟩
  | [], _ :: _, h => h.elim
  | _ :: _, [], h => h.elim
end
mutual
theorem Dq.dp {K : PySem.W.Frag} {H : Hp} : ∀ {d : PyData} {v : V}, Dq H d v → Dp K H v d
  | .none, _, h => by cases (show _ = V.non from h); exact .non
  | .bool b, _, h => by cases (show _ = V.bl b from h); exact .bl b
  | .int i, _, h => by cases (show _ = V.int i from h); exact .int i
  | .str x, _, h => by cases (show _ = V.str x from h); exact .str x
  | .list ds, _, ⟨a, xs, e1, h1, h2⟩ => by subst e1; exact .lst (SqL.of h1) (DqAll.dp h2)
  | .tuple ds, _, ⟨a, xs, e1, h1, h2⟩ => by subst e1; exact .tup (SqT.of h1) (DqAll.dp h2)
  | .dict _, _, h => h.elim
theorem DqAll.dp {K : PySem.W.Frag} {H : Hp} : ∀ {ds : List PyData} {vs : List V}, DqAll H ds vs → DpAll K H vs ds
  | [], [], _ => .nil
  | d :: ds, v :: vs, h => .cons (Dq.dp h.1) (DqAll.dp h.2)
  | [], _ :: _, h => h.elim
  | _ :: _, [], h => h.elim
end
theorem DqAll.len {H : Hp} : ∀ {ds : List PyData} {vs : List V}, DqAll H ds vs → vs.length = ds.length
  | [], [], _ => rfl
  | d :: ds, v :: vs, h => by rw [List.length_cons, List.length_cons, DqAll.len h.2]
  | [], _ :: _, h => h.elim
  | _ :: _, [], h => h.elim
theorem DqAll.get {H : Hp} : ∀ {ds : List PyData} {vs : List V} {i : Nat} {d : PyData}, DqAll H ds vs → ds[i]? = some d → ∃ v, vs[i]? = some v ∧ Dq H d v
  | [], [], _, _, _, h => by simp at h
  | d :: ds, v :: vs, 0, e, h, hi => ⟨v, rfl, by cases (show some d = some e from hi); exact h.1⟩
  | d :: ds, v :: vs, i + 1, e, h, hi => DqAll.get (i := i) h.2 (by simpa using hi)
  | [], _ :: _, _, _, h, _ => h.elim
  | _ :: _, [], _, _, h, _ => h.elim
theorem DqAll.snoc {H : Hp} {d : PyData} {v : V} (hv : Dq H d v) : ∀ {ds : List PyData} {vs : List V}, DqAll H ds vs → DqAll H (ds ++ [d]) (vs ++ [v])
  | [], [], _ => ⟨hv, trivial⟩
  | _ :: _, _ :: _, h => ⟨h.1, DqAll.snoc hv h.2⟩
  | [], _ :: _, h => h.elim
  | _ :: _, [], h => h.elim
theorem DqAll.app {H : Hp} {es : List PyData} {us : List V} (hv : DqAll H es us) : ∀ {ds : List PyData} {vs : List V}, DqAll H ds vs → DqAll H (ds ++ es) (vs ++ us)
  | [], [], _ => hv
  | _ :: _, _ :: _, h => ⟨h.1, DqAll.app hv h.2⟩
  | [], _ :: _, h => h.elim
  | _ :: _, [], h => h.elim
theorem DqAll.drop {H : Hp} : ∀ (n : Nat) {ds : List PyData} {vs : List V}, DqAll H ds vs → DqAll H (ds.drop n) (vs.drop n)
  | 0, _, _, h => h
  | n + 1, [], [], _ => trivial
  | n + 1, _ :: _, _ :: _, h => DqAll.drop n h.2
  | _ + 1, [], _ :: _, h => h.elim
  | _ + 1, _ :: _, [], h => h.elim
theorem DqAll.take {H : Hp} : ∀ (n : Nat) {ds : List PyData} {vs : List V}, DqAll H ds vs → DqAll H (ds.take n) (vs.take n)
  | 0, _, _, _ => trivial
  | n + 1, [], [], _ => trivial
  | n + 1, _ :: _, _ :: _, h => ⟨h.1, DqAll.take n h.2⟩
  | _ + 1, [], _ :: _, h => h.elim
  | _ + 1, _ :: _, [], h => h.elim
theorem DqAll.ints {H : Hp} : ∀ {ns : List Int} {vs : List V}, DqAll H (ns.map PyData.int) vs → vs = ns.map V.int
  | [], [], _ => rfl
  | n :: ns, v :: vs, h => by rw [show v = V.int n from h.1, DqAll.ints h.2]; rfl
  | [], _ :: _, h => h.elim
  | _ :: _, [], h => h.elim
theorem DqAll.strs' {H : Hp} : ∀ {ns : List Str} {vs : List V}, DqAll H (ns.map PyData.str) vs → vs = ns.map V.str
  | [], [], _ => rfl
  | n :: ns, v :: vs, h => by rw [show v = V.str n from h.1, DqAll.strs' h.2]; rfl
  | [], _ :: _, h => h.elim
  | _ :: _, [], h => h.elim
/-- the frozen part and the heap grow -/
structure Le (H0 H H0' H' : Hp) : Prop where
  b : Ex H0 H0'
  t : Ex H H'
  w : Ex H0' H'
  n : ∀ a o, H a = some o → H0 a = none → H0' a = none
theorem Le.refl {H0 H : Hp} (w : Ex H0 H) : Le H0 H H0 H := ⟨.rfl', .rfl', w, fun _ _ _ h => h⟩
theorem Le.trans {H0 H H0' H' H0'' H'' : Hp} (a : Le H0 H H0' H') (b : Le H0' H' H0'' H'') : Le H0 H H0'' H'' :=
  ⟨a.b.trans b.b, a.t.trans b.t, b.w, fun x o h h0 => b.n x o (a.t x o h) (a.n x o h h0)⟩
theorem ex_upd {H H' : Hp} {p : Addr} {o : HO} (e : Ex H H') (h : H' p = none) : Ex (upd H p o) (upd H' p o) := fun a u ha => by
  by_cases q : a = p
  · subst q
    rw [upd_same] at ha ⊢
    exact ha
  · rw [upd_ne q] at ha ⊢
    exact e a u ha
theorem Le.new {H0 H : Hp} {p : Addr} {o : HO} (w : Ex H0 H) (h : H p = none) : Le H0 H (upd H0 p o) (upd H p o) :=
  ⟨Evl.Ex.new (Evl.fresh_back w h), Evl.Ex.new h, ex_upd w h, fun a u ha h0 => by
    rw [upd_ne (fun q => by subst q; rw [h] at ha; cases ha)]
    exact h0⟩
inductive Sv where
  | any
  | dat (d : PyData)
  | own (ds : List PyData)
  | raw (v : V)
  | dct (f : Nat × Nat → Option Int)
  | box (p : Addr) (dg : List Int)
  | lat (p : Addr) (ds : List PyData)
abbrev Rho := List Sv
/-- a dict from pairs to whole numbers -/
def keyC (c : Nat × Nat) : List L2.Key := [.inl (c.1 : Int), .inl (c.2 : Int)]
def DctOk (H0 : Hp) (f : Nat × Nat → Option Int) (v : V) : Prop := ∃ d kvs, v = .ref d ∧ H0 d = some (.dT kvs) ∧ ∀ c, valV kvs (keyC c) = (f c).map V.int
theorem DctOk.mono {H H' : Hp} {f : Nat × Nat → Option Int} {v : V} (e : Ex H H') (h : DctOk H f v) : DctOk H' f v := by
  obtain ⟨d, kvs, e1, h1, h2⟩ := h
  exact ⟨d, kvs, e1, e d _ h1, h2⟩
/-- the law's box: its digits, its place -/
def BoxOk (H0 H : Hp) (p : Addr) (dg : List Int) : Prop := H0 p = none ∧ ∃ l i, H p = some (.lst [l, .int i]) ∧ 0 ≤ i ∧ Dq H0 (.list (dg.map PyData.int)) l
def SvOk (B H0 H : Hp) (x : Option V) : Sv → Prop
  | .any => True
  | .dat d => ∃ v, x = some v ∧ Dq H0 d v
  | .own ds => ∃ p vs, x = some (.ref p) ∧ B p = none ∧ H0 p = none ∧ H p = some (.lst vs) ∧ DqAll H0 ds vs
  | .raw v => x = some v
  | .dct f => ∃ v, x = some v ∧ DctOk H0 f v
  | .box p dg => x = some (.ref p) ∧ B p = none ∧ BoxOk H0 H p dg
  | .lat p ds => x = some (.ref p) ∧ B p = none ∧ H0 p = none ∧ ∃ vs, H p = some (.lst vs) ∧ DqAll H0 ds vs
def EnvOk (B H0 H : Hp) : Slots → Rho → Prop
  | [], [] => True
  | x :: σ, s :: ρ => SvOk B H0 H x s ∧ EnvOk B H0 H σ ρ
  | [], _ :: _ => False
  | _ :: _, [] => False
structure Eok (B0 B H0 H : Hp) (σ : Slots) (ρ : Rho) : Prop where
  le : Le B0 B H0 H
  env : EnvOk B H0 H σ ρ
theorem SvOk.le {B H0 H H0' H' : Hp} {x : Option V} {s : Sv} (l : Le H0 H H0' H') (h : SvOk B H0 H x s) : SvOk B H0' H' x s := by
  cases s with
  | any => trivial
  | dat d =>
    obtain ⟨v, e, h⟩ := h
    exact ⟨v, e, h.mono l.b⟩
  | own ds =>
    obtain ⟨p, vs, e, h1, h2, h3, h4⟩ := h
    exact ⟨p, vs, e, h1, l.n p _ h3 h2, l.t p _ h3, h4.mono l.b⟩
  | raw v => exact h
  | dct f =>
    obtain ⟨v, e, h⟩ := h
    exact ⟨v, e, h.mono l.b⟩
  | box p dg =>
    obtain ⟨e, h1, h2, a, i, h3, h4, h5⟩ := h
    exact ⟨e, h1, l.n p _ h3 h2, a, i, l.t p _ h3, h4, h5.mono l.b⟩
  | lat p ds =>
    obtain ⟨e, h1, h2, vs, h3, h4⟩ := h
    exact ⟨e, h1, l.n p _ h3 h2, vs, l.t p _ h3, h4.mono l.b⟩
theorem EnvOk.le {B H0 H H0' H' : Hp} (l : Le H0 H H0' H') : ∀ {σ : Slots} {ρ : Rho}, EnvOk B H0 H σ ρ → EnvOk B H0' H' σ ρ
  | [], [], _ => trivial
  | _ :: _, _ :: _, h => ⟨h.1.le l, EnvOk.le l h.2⟩
  | [], _ :: _, h => h.elim
  | _ :: _, [], h => h.elim
theorem EnvOk.get {B H0 H : Hp} : ∀ {σ : Slots} {ρ : Rho} {i : Nat} {s : Sv}, EnvOk B H0 H σ ρ → ρ[i]? = some s → ∃ x, σ[i]? = some x ∧ SvOk B H0 H x s
  | [], [], _, _, _, h => by simp at h
  | x :: σ, s :: ρ, 0, _, h, hi => ⟨x, rfl, by cases (show some s = some _ from hi); exact h.1⟩
  | x :: σ, s :: ρ, i + 1, _, h, hi => EnvOk.get (i := i) h.2 (by simpa using hi)
  | [], _ :: _, _, _, h, _ => h.elim
  | _ :: _, [], _, _, h, _ => h.elim
theorem EnvOk.set {B H0 H : Hp} {x : Option V} {s : Sv} (hs : SvOk B H0 H x s) : ∀ {σ : Slots} {ρ : Rho} (i : Nat), EnvOk B H0 H σ ρ → EnvOk B H0 H (σ.set i x) (ρ.set i s)
  | [], [], _, _ => trivial
  | _ :: _, _ :: _, 0, h => ⟨hs, h.2⟩
  | _ :: _, _ :: _, i + 1, h => ⟨h.1, EnvOk.set hs i h.2⟩
  | [], _ :: _, _, h => h.elim
  | _ :: _, [], _, h => h.elim
def wipeR (ρ : Rho) : List Nat → Rho
  | [] => ρ
  | v :: vs => (wipeR ρ vs).set v .any
theorem EnvOk.wipe {B H0 H : Hp} {σ : Slots} {ρ : Rho} (h : EnvOk B H0 H σ ρ) : ∀ vs : List Nat, EnvOk B H0 H (wipe σ vs) (wipeR ρ vs)
  | [] => h
  | v :: vs => (EnvOk.wipe h vs).set (x := none) (s := .any) trivial v
theorem Eok.leE {B0 B H0 H H0' H' : Hp} {σ : Slots} {ρ : Rho} (h : Eok B0 B H0 H σ ρ) (l : Le H0 H H0' H') : Eok B0 B H0' H' σ ρ := ⟨h.le.trans l, h.env.le l⟩
theorem wipe_at (σ : Slots) : ∀ (vs : List Nat) (i : Nat), (wipe σ vs)[i]? = if i ∈ vs then (if i < σ.length then some none else none) else σ[i]?
  | [], i => by simp [L2.wipe]
  | v :: vs, i => by
    unfold L2.wipe
    have hl := wipe_length σ vs
    have ih := wipe_at σ vs i
    by_cases hv : v = i
    · subst hv
      rw [if_pos (by simp)]
      by_cases hlt : v < σ.length
      · rw [List.getElem?_set_self (by rw [hl]; exact hlt), if_pos hlt]
      · rw [if_neg hlt, List.getElem?_eq_none (by rw [List.length_set, hl]; omega)]
    · rw [List.getElem?_set_ne hv, ih]
      by_cases hm : i ∈ vs
      · rw [if_pos hm, if_pos (List.mem_cons_of_mem _ hm)]
      · rw [if_neg hm, if_neg (by simp [hm]; exact fun q => hv q.symm)]
theorem wipe_set {σ : Slots} {vs : List Nat} {j : Nat} {x : Option V} (h : j ∈ vs) : wipe (σ.set j x) vs = wipe σ vs := by
  apply List.ext_getElem?
  intro i
  rw [wipe_at, wipe_at, List.length_set]
  by_cases hm : i ∈ vs
  · rw [if_pos hm, if_pos hm]
  · rw [if_neg hm, if_neg hm, List.getElem?_set_ne (fun q => hm (by rw [← q]; exact h))]
theorem wipe_idem {σ : Slots} {vs : List Nat} : wipe (wipe σ vs) vs = wipe σ vs := by
  apply List.ext_getElem?
  intro i
  rw [wipe_at, wipe_at σ, wipe_length]
  by_cases hm : i ∈ vs
  · rw [if_pos hm, if_pos hm]
  · rw [if_neg hm, if_neg hm]
section
variable (B0 B : Hp)
def Ed (te : TE) (ρ : Rho) (d : PyData) : Prop := ∀ H0 H σ, Eok B0 B H0 H σ ρ → ∀ Q : VK, (∀ v H0' H', Le H0 H H0' H' → Dq H0' d v → Q v H') → te σ H Q
/-- a list, in the frozen part or not -/
def EdL (te : TE) (ρ : Rho) (ds : List PyData) : Prop := ∀ H0 H σ, Eok B0 B H0 H σ ρ → ∀ Q : VK, (∀ a vs H0' H', Le H0 H H0' H' → H' a = some (.lst vs) → DqAll H0' ds vs → Q (.ref a) H') → te σ H Q
def EdA (ta : TA) (ρ : Rho) (ds : List PyData) : Prop := ∀ H0 H σ, Eok B0 B H0 H σ ρ → ∀ Q : List V → Hp → Prop, (∀ vs H0' H', Le H0 H H0' H' → DqAll H0' ds vs → Q vs H') → ta σ H Q
def EdT (tt : TT) (ρ : Rho) (b : Bool) : Prop := ∀ H0 H σ, Eok B0 B H0 H σ ρ → ∀ Q : Bool → Hp → Prop, (∀ H0' H', Le H0 H H0' H' → Q b H') → tt σ H Q
def EdO (to : TO) (ρ : Rho) (o : Option Int) : Prop := ∀ H0 H σ, Eok B0 B H0 H σ ρ → ∀ Q : Option Int → Hp → Prop, (∀ H0' H', Le H0 H H0' H' → Q o H') → to σ H Q
end
def RD (r : R2) (d e z : PyData) : Prop := ∀ H0 H x y, Ex H0 H → Dq H0 d x → Dq H0 e y → ∀ Q : VK, (∀ v H0' H', Le H0 H H0' H' → Dq H0' z v → Q v H') → r x y H Q
def RUd (r : V → Hp → VK → Prop) (d z : PyData) : Prop := ∀ H0 H x, Ex H0 H → Dq H0 d x → ∀ Q : VK, (∀ v H0' H', Le H0 H H0' H' → Dq H0' z v → Q v H') → r x H Q
def RCd (r : List V → Hp → VK → Prop) (ds : List PyData) (z : PyData) : Prop := ∀ H0 H xs, Ex H0 H → DqAll H0 ds xs → ∀ Q : VK, (∀ v H0' H', Le H0 H H0' H' → Dq H0' z v → Q v H') → r xs H Q
section
variable {B0 B : Hp} {ρ : Rho} {d e z : PyData} {ds : List PyData} {ta tb te tc : TE} {tt tu : TT} {K : PySem.W.Frag}
theorem ed_var {i : Nat} (h : ρ[i]? = some (.dat d)) : Ed B0 B (tVar i) ρ d := fun H0 H σ E Q q => by
  obtain ⟨x, hx, v, rfl, hv⟩ := E.env.get h
  exact ⟨v, hx, q v H0 H (.refl E.le.w) hv⟩
theorem ed_c {v : V} (h : ∀ H, Dq H d v) : Ed B0 B (tC v) ρ d := fun H0 H σ E Q q => q v H0 H (.refl E.le.w) (h H0)
theorem ed_int {i : Int} : Ed B0 B (tC (.int i)) ρ (.int i) := ed_c fun _ => rfl
theorem ed_str {x : Str} : Ed B0 B (tC (.str x)) ρ (.str x) := ed_c fun _ => rfl
theorem ed_bl {b : Bool} : Ed B0 B (tC (.bl b)) ρ (.bool b) := ed_c fun _ => rfl
theorem ed_non : Ed B0 B (tC .non) ρ .none := ed_c fun _ => rfl
theorem ed_op {r : R2} (ha : Ed B0 B ta ρ d) (hb : Ed B0 B tb ρ e) (hr : RD r d e z) : Ed B0 B (tOp r ta tb) ρ z := fun H0 H σ E Q q =>
  ha H0 H σ E _ fun x H1 H2 l1 hx => hb H1 H2 σ (E.leE l1) _ fun y H3 H4 l2 hy => hr H3 H4 x y l2.w (hx.mono l2.b) hy Q fun v H5 H6 l3 hv => q v H5 H6 ((l1.trans l2).trans l3) hv
theorem ed_un {r : V → Hp → VK → Prop} (ha : Ed B0 B ta ρ d) (hr : RUd r d z) : Ed B0 B (tUn r ta) ρ z := fun H0 H σ E Q q =>
  ha H0 H σ E _ fun x H1 H2 l1 hx => hr H1 H2 x l1.w hx Q fun v H5 H6 l3 hv => q v H5 H6 (l1.trans l3) hv
theorem rd_val {r : R2} (h : ∀ H0 H x y, Ex H0 H → Dq H0 d x → Dq H0 e y → ∀ Q : VK, (∀ v, Dq H0 z v → Q v H) → r x y H Q) : RD r d e z := fun H0 H x y w hx hy Q q =>
  h H0 H x y w hx hy Q fun v hv => q v H0 H (.refl w) hv
theorem rd_I0 {g : Int → Int → V} {i j : Int} (hz : ∀ H, Dq H z (g i j)) : RD (rI0 g) (.int i) (.int j) z := rd_val fun H0 H x y w hx hy Q q => ⟨i, j, hx, hy, q _ (hz H0)⟩
theorem rd_I {C : Int → Int → Prop} {g : Int → Int → V} {i j : Int} (hc : C i j) (hz : ∀ H, Dq H z (g i j)) : RD (rI C g) (.int i) (.int j) z := rd_val fun H0 H x y w hx hy Q q => ⟨i, j, hx, hy, hc, q _ (hz H0)⟩
def isNon : PyData → Bool
  | .none => true
  | _ => false
theorem isNon_iff {H : Hp} {v : V} (h : Dq H d v) : decide (v = V.non) = isNon d := by
  cases d with
  | none => cases (show v = V.non from h); rfl
  | bool b => cases (show v = V.bl b from h); rfl
  | int b => cases (show v = V.int b from h); rfl
  | str b => cases (show v = V.str b from h); rfl
  | list b => obtain ⟨a, xs, rfl, _⟩ := h; rfl
  | tuple b => obtain ⟨a, xs, rfl, _⟩ := h; rfl
  | dict b => exact (show False from h).elim
theorem rd_isN : RD (fun x y H Q => y = V.non ∧ Q (V.bl (decide (x = V.non))) H) d .none (.bool (isNon d)) := rd_val fun H0 H x y w hx hy Q q => ⟨hy, q _ (by rw [isNon_iff hx]; rfl)⟩
theorem rd_notN : RD (fun x y H Q => y = V.non ∧ Q (V.bl (!decide (x = V.non))) H) d .none (.bool (!isNon d)) := rd_val fun H0 H x y w hx hy Q q => ⟨hy, q _ (by rw [isNon_iff hx]; rfl)⟩
theorem rd_eqD (hd : SeqAt.shaped d = true) (he : SeqAt.shaped e = true) : RD (rEqD K) d e (.bool (PyData.eqv d e)) := rd_val fun H0 H x y w hx hy Q q => ⟨d, e, (hx.mono w).dp, (hy.mono w).dp, hd, he, q _ rfl⟩
theorem rd_neD (hd : SeqAt.shaped d = true) (he : SeqAt.shaped e = true) : RD (rNeD K) d e (.bool (!PyData.eqv d e)) := rd_val fun H0 H x y w hx hy Q q => ⟨d, e, (hx.mono w).dp, (hy.mono w).dp, hd, he, q _ rfl⟩
theorem rd_inD (hd : SeqAt.shaped d = true) (he : SeqAt.shaped (.list ds) = true) : RD (rInD K) d (.list ds) (.bool (ds.any fun z => PyData.eqv z d)) := rd_val fun H0 H x y w hx hy Q q => ⟨d, ds, (hx.mono w).dp, (hy.mono w).dp, hd, he, q _ rfl⟩
theorem rd_notInD (hd : SeqAt.shaped d = true) (he : SeqAt.shaped (.list ds) = true) : RD (rNotInD K) d (.list ds) (.bool (!ds.any fun z => PyData.eqv z d)) := rd_val fun H0 H x y w hx hy Q q => ⟨d, ds, (hx.mono w).dp, (hy.mono w).dp, hd, he, q _ rfl⟩
/-- the item at a place of either sign -/
def ixD (ds : List PyData) (i : Int) : Option PyData := atI ds i
theorem atI_rel {H : Hp} {vs : List V} {i : Int} (h : DqAll H ds vs) (hi : atI ds i = some d) : ∃ v, atI vs i = some v ∧ Dq H d v := by
  unfold atI at hi ⊢
  rw [h.len]
  cases hj : ixN ds.length i with
  | none => rw [hj] at hi; cases hi
  | some j =>
    rw [hj] at hi
    exact h.get hi
theorem rd_ixT {i : Int} (hi : atI ds i = some d) : RD (rIxT K) (.tuple ds) (.int i) d := rd_val fun H0 H x y w hx hy Q q => by
  obtain ⟨a, xs, rfl, h1, h2⟩ := hx
  obtain ⟨v, hv, hd⟩ := atI_rel h2 hi
  exact ⟨a, xs, i, v, rfl, hy, SqT.of (w a _ h1), hv, q v hd⟩
theorem rd_ixL {i : Int} (hi : atI ds i = some d) : RD (rIxL K) (.list ds) (.int i) d := rd_val fun H0 H x y w hx hy Q q => by
  obtain ⟨a, xs, rfl, h1, h2⟩ := hx
  obtain ⟨v, hv, hd⟩ := atI_rel h2 hi
  exact ⟨a, xs, i, v, rfl, hy, SqL.of (w a _ h1), hv, q v hd⟩
theorem rd_ixS {z : Str} {i : Int} {c : Nat} (hz : z.length ≤ 1000) (hi : atI z.cps.toList i = some c) : RD rIxS (.str z) (.int i) (.str ⟨#[c]⟩) := rd_val fun H0 H x y w hx hy Q q =>
  ⟨z, i, c, hx, hy, Nat.le_trans hz (by decide), hi, q _ rfl⟩
theorem sz5 {n : Nat} (h : n ≤ 100000) : n ≤ sizeLine := Nat.le_trans h (by decide)
theorem rd_cat {es : List PyData} (hl : ds.length + es.length ≤ 100000) : RD rCat (.list ds) (.list es) (.list (ds ++ es)) := fun H0 H x y w hx hy Q q => by
  obtain ⟨a, xs, rfl, h1, h2⟩ := hx
  obtain ⟨b, ys, rfl, h3, h4⟩ := hy
  refine ⟨a, b, xs, ys, rfl, rfl, w a _ h1, w b _ h3, sz5 (by rw [h2.len, h4.len]; exact hl), fun p hp => ?_⟩
  have l := Le.new (o := .lst (xs ++ ys)) w hp
  exact q _ _ _ l ⟨p, _, rfl, upd_same, (DqAll.app h4 h2).mono l.b⟩
theorem rd_catT {es : List PyData} (hl : ds.length + es.length ≤ 100000) (hd : ds ≠ []) (he : es ≠ []) : RD (rCatT K) (.tuple ds) (.tuple es) (.tuple (ds ++ es)) := fun H0 H x y w hx hy Q q => by
  obtain ⟨a, xs, rfl, h1, h2⟩ := hx
  obtain ⟨b, ys, rfl, h3, h4⟩ := hy
  have z1 : xs ≠ [] := fun z => hd (List.eq_nil_of_length_eq_zero (by rw [← h2.len, z]; rfl))
  have z2 : ys ≠ [] := fun z => he (List.eq_nil_of_length_eq_zero (by rw [← h4.len, z]; rfl))
  refine ⟨a, b, xs, ys, rfl, rfl, SqT.of (w a _ h1), SqT.of (w b _ h3), z1, sz5 (by rw [h2.len, h4.len]; exact hl), fun z => absurd z z2, fun _ p hp => ?_⟩
  have l := Le.new (o := .tup (xs ++ ys)) w hp
  exact q _ _ _ l ⟨p, _, rfl, upd_same, (DqAll.app h4 h2).mono l.b⟩
theorem rd_addS {x y : Str} (hl : x.length + y.length ≤ 100000) : RD (fun x y H Q => ∃ i j, x = V.str i ∧ y = V.str j ∧ i.length + j.length ≤ sizeLine ∧ Q (V.str (i ++ j)) H) (.str x) (.str y) (.str (x ++ y)) :=
  rd_val fun H0 H u v w hx hy Q q => ⟨x, y, hx, hy, sz5 hl, q _ rfl⟩
theorem ea_nil : EdA B0 B tNil ρ [] := fun H0 H σ E Q q => q [] H0 H (.refl E.le.w) trivial
theorem ea_cons {tr : TA} (ha : Ed B0 B ta ρ d) (hr : EdA B0 B tr ρ ds) : EdA B0 B (tCons ta tr) ρ (d :: ds) := fun H0 H σ E Q q =>
  ha H0 H σ E _ fun v H1 H2 l1 hv => hr H1 H2 σ (E.leE l1) _ fun vs H3 H4 l2 hvs => q _ H3 H4 (l1.trans l2) ⟨hv.mono l2.b, hvs⟩
theorem ed_tup {t : TA} (h : EdA B0 B t ρ ds) (hl : ds.length ≤ 100000 := by decide) : Ed B0 B (tTup t) ρ (.tuple ds) := fun H0 H σ E Q q =>
  h H0 H σ E _ fun vs H1 H2 l1 hv => ⟨sz5 (by rw [hv.len]; exact hl), fun p hp => by
    have l := Le.new (o := .tup vs) l1.w hp
    exact q _ _ _ (l1.trans l) ⟨p, _, rfl, upd_same, hv.mono l.b⟩⟩
theorem ed_lst {t : TA} (h : EdA B0 B t ρ ds) (hl : ds.length ≤ 100000 := by decide) : Ed B0 B (tLst t) ρ (.list ds) := fun H0 H σ E Q q =>
  h H0 H σ E _ fun vs H1 H2 l1 hv => ⟨sz5 (by rw [hv.len]; exact hl), fun p hp => by
    have l := Le.new (o := .lst vs) l1.w hp
    exact q _ _ _ (l1.trans l) ⟨p, _, rfl, upd_same, hv.mono l.b⟩⟩
theorem ed_cb {r : List V → Hp → VK → Prop} {t : TA} (h : EdA B0 B t ρ ds) (hr : RCd r ds z) : Ed B0 B (tCB r t) ρ z := fun H0 H σ E Q q =>
  h H0 H σ E _ fun vs H1 H2 l1 hv => hr H1 H2 vs l1.w hv Q fun v H3 H4 l2 hz => q v H3 H4 (l1.trans l2) hz
theorem ed_if {b : Bool} (h : EdT B0 B tt ρ b) (h1 : b = true → Ed B0 B ta ρ d) (h2 : b = false → Ed B0 B tb ρ d) : Ed B0 B (tIf tt ta tb) ρ d := fun H0 H σ E Q q =>
  h H0 H σ E _ fun H1 H2 l1 => by
    cases b with
    | true => exact (h1 rfl) H1 H2 σ (E.leE l1) Q fun v H3 H4 l2 hv => q v H3 H4 (l1.trans l2) hv
    | false => exact (h2 rfl) H1 H2 σ (E.leE l1) Q fun v H3 H4 l2 hv => q v H3 H4 (l1.trans l2) hv
theorem et_test {b : Bool} (h : Ed B0 B te ρ (.bool b)) : EdT B0 B (tTest te) ρ b := fun H0 H σ E Q q => h H0 H σ E _ fun v H1 H2 l1 hv => ⟨b, hv, q H1 H2 l1⟩
theorem et_B {b : Bool} (h : Ed B0 B te ρ (.bool b)) : EdT B0 B (tB te) ρ b := fun H0 H σ E Q q => h H0 H σ E _ fun v H1 H2 l1 hv => ⟨b, hv, q H1 H2 l1⟩
theorem et_and {a b : Bool} (h1 : EdT B0 B tt ρ a) (h2 : a = true → EdT B0 B tu ρ b) : EdT B0 B (tAnd tt tu) ρ (a && b) := fun H0 H σ E Q q => h1 H0 H σ E _ fun H1 H2 l1 => by
  cases a with
  | true => exact (h2 rfl) H1 H2 σ (E.leE l1) Q fun H3 H4 l2 => q H3 H4 (l1.trans l2)
  | false => exact q H1 H2 l1
theorem et_or {a b : Bool} (h1 : EdT B0 B tt ρ a) (h2 : a = false → EdT B0 B tu ρ b) : EdT B0 B (tOr tt tu) ρ (a || b) := fun H0 H σ E Q q => h1 H0 H σ E _ fun H1 H2 l1 => by
  cases a with
  | false => exact (h2 rfl) H1 H2 σ (E.leE l1) Q fun H3 H4 l2 => q H3 H4 (l1.trans l2)
  | true => exact q H1 H2 l1
theorem et_not {a : Bool} (h1 : EdT B0 B tt ρ a) : EdT B0 B (tNot tt) ρ (!a) := fun H0 H σ E Q q => h1 H0 H σ E _ q
theorem et_is {a b : Bool} (h : EdT B0 B tt ρ a) (e : a = b) : EdT B0 B tt ρ b := e ▸ h
theorem ed_is (h : Ed B0 B te ρ d) (q : d = z) : Ed B0 B te ρ z := q ▸ h
theorem et_chain {r r' : R2} {b c : Bool} (ha : Ed B0 B ta ρ d) (hb : Ed B0 B tb ρ e) (hr : RD r d e (.bool b)) (hc : b = true → Ed B0 B tc ρ z) (hr' : RD r' e z (.bool c)) : EdT B0 B (tTest (tChain r r' ta tb tc)) ρ (b && c) := fun H0 H σ E Q q =>
  ha H0 H σ E _ fun x H1 H2 l1 hx => hb H1 H2 σ (E.leE l1) _ fun y H3 H4 l2 hy => hr H3 H4 x y l2.w (hx.mono l2.b) hy _ fun v H5 H6 l3 hv => ⟨b, hv, by
    have l := (l1.trans l2).trans l3
    cases b with
    | true =>
      refine (hc rfl) H5 H6 σ (E.leE l) _ fun w' H7 H8 l4 hw => hr' H7 H8 y w' l4.w (hy.mono (l3.b.trans l4.b)) hw _ fun u H9 H10 l5 hu => ⟨c, hu, q H9 H10 ((l.trans l4).trans l5)⟩
    | false => exact ⟨false, rfl, q H5 H6 l⟩⟩
theorem eo_none : EdO B0 B tNoPart ρ none := fun H0 H σ E Q q => q H0 H (.refl E.le.w)
theorem eo_some {i : Int} (h : Ed B0 B te ρ (.int i)) : EdO B0 B (tPart te) ρ (some i) := fun H0 H σ E Q q => h H0 H σ E _ fun v H1 H2 l1 hv => ⟨i, hv, q H1 H2 l1⟩
/-- what a slice has -/
def cutD (ds : List PyData) (lo hi : Option Int) : List PyData := (ds.drop (HT.sIx ds.length 0 lo)).take (HT.sIx ds.length ds.length hi - HT.sIx ds.length 0 lo)
theorem DqAll.cut {H : Hp} {vs : List V} {lo hi : Option Int} (h : DqAll H ds vs) : DqAll H (cutD ds lo hi) (cutV vs lo hi) := by
  unfold cutD cutV
  rw [h.len]
  exact (h.drop _).take _
theorem cut_all {lo hi : Option Int} {vs : List V} (h : HT.sIx vs.length 0 lo = 0 ∧ HT.sIx vs.length vs.length hi = vs.length) : cutV vs lo hi = vs := by
  unfold cutV
  rw [h.1, h.2]
  simp
theorem ed_slL {tl th : TO} {lo hi : Option Int} (h : Ed B0 B te ρ (.list ds)) (h1 : EdO B0 B tl ρ lo) (h2 : EdO B0 B th ρ hi) : Ed B0 B (tSl (rSlL K) te tl th) ρ (.list (cutD ds lo hi)) := fun H0 H σ E Q q =>
  h H0 H σ E _ fun v H1 H2 l1 hv => h1 H1 H2 σ (E.leE l1) _ fun H3 H4 l2 => h2 H3 H4 σ ((E.leE l1).leE l2) _ fun H5 H6 l3 => by
    obtain ⟨a, xs, rfl, g1, g2⟩ := hv.mono (l2.b.trans l3.b)
    refine ⟨a, xs, rfl, SqL.of (l3.w a _ g1), fun p hp => ?_⟩
    have l := Le.new (o := .lst (cutV xs lo hi)) l3.w hp
    exact q _ _ _ (((l1.trans l2).trans l3).trans l) ⟨p, _, rfl, upd_same, g2.cut.mono l.b⟩
theorem ed_slA {tl th : TO} {lo hi : Option Int} (h : Ed B0 B te ρ (.tuple ds)) (h1 : EdO B0 B tl ρ lo) (h2 : EdO B0 B th ρ hi) : Ed B0 B (tSl (rSlA K) te tl th) ρ (.tuple (cutD ds lo hi)) := fun H0 H σ E Q q =>
  h H0 H σ E _ fun v H1 H2 l1 hv => h1 H1 H2 σ (E.leE l1) _ fun H3 H4 l2 => h2 H3 H4 σ ((E.leE l1).leE l2) _ fun H5 H6 l3 => by
    obtain ⟨a, xs, rfl, g1, g2⟩ := hv.mono (l2.b.trans l3.b)
    refine ⟨a, xs, rfl, SqT.of (l3.w a _ g1), fun hz => ?_, fun hz p hp => ?_⟩
    · have c := g2.cut (lo := lo) (hi := hi)
      rw [cut_all hz] at c
      exact q _ _ _ ((l1.trans l2).trans l3) ⟨a, _, rfl, g1, c⟩
    · have l := Le.new (o := .tup (cutV xs lo hi)) l3.w hp
      exact q _ _ _ (((l1.trans l2).trans l3).trans l) ⟨p, _, rfl, upd_same, g2.cut.mono l.b⟩
theorem keyC_of {H : Hp} {c : Nat × Nat} {v : V} (h : Dq H (.tuple [.int (c.1 : Int), .int (c.2 : Int)]) v) : ∃ q, v = .ref q ∧ H q = some (.tup ((keyC c).map kV)) := by
  obtain ⟨q, xs, rfl, h1, h2⟩ := h
  match xs, h2 with
  | [x, y], h2 =>
    cases (show x = V.int c.1 from h2.1)
    cases (show y = V.int c.2 from h2.2.1)
    exact ⟨q, rfl, h1⟩
theorem ed_dget {i : Nat} {f : Nat × Nat → Option Int} {c : Nat × Nat} {v : Int} (h : ρ[i]? = some (.dct f)) (hk : Ed B0 B te ρ (.tuple [.int (c.1 : Int), .int (c.2 : Int)])) (hv : f c = some v) : Ed B0 B (tDGet (tVar i) te) ρ (.int v) := fun H0 H σ E Q q => by
  obtain ⟨x, hx, w, rfl, d, kvs, rfl, h1, h2⟩ := E.env.get h
  refine ⟨_, hx, hk H0 H σ E _ fun u H1 H2 l hu => ?_⟩
  obtain ⟨p, rfl, hp⟩ := keyC_of hu
  have e := h2 c
  rw [hv] at e
  refine ⟨d, .int v, rfl, ?_, q _ H1 H2 l rfl⟩
  have g := DGet.t (l.t d _ (E.le.w d _ h1)) (l.w p _ hp)
  rw [e] at g
  exact g
theorem ed_dget2 {i : Nat} {f : Nat × Nat → Option Int} {c : Nat × Nat} {z : Int} (h : ρ[i]? = some (.dct f)) (hk : Ed B0 B te ρ (.tuple [.int (c.1 : Int), .int (c.2 : Int)])) : Ed B0 B (tDGet2 (tVar i) te (tC (.int z))) ρ (.int ((f c).getD z)) := fun H0 H σ E Q q => by
  obtain ⟨x, hx, w, rfl, d, kvs, rfl, h1, h2⟩ := E.env.get h
  have hd := E.le.w d _ h1
  refine ⟨_, hx, d, rfl, .inr ⟨kvs, .inl hd⟩, hk H0 H σ E _ fun u H1 H2 l hu => ?_⟩
  obtain ⟨p, rfl, hp⟩ := keyC_of hu
  refine ⟨_, DGet.t (l.t d _ hd) (l.w p _ hp), ?_⟩
  rw [h2 c]
  have e2 : ((f c).map V.int).getD (V.int z) = V.int ((f c).getD z) := by cases f c <;> rfl
  rw [e2]
  exact q _ H1 H2 l rfl
/-! lists that may change -/
theorem el_own {i : Nat} (h : ρ[i]? = some (.own ds)) : EdL B0 B (tVar i) ρ ds := fun H0 H σ E Q q => by
  obtain ⟨x, hx, p, vs, rfl, h1, h2, h3, h4⟩ := E.env.get h
  exact ⟨_, hx, q p vs H0 H (.refl E.le.w) h3 h4⟩
theorem el_ed (h : Ed B0 B te ρ (.list ds)) : EdL B0 B te ρ ds := fun H0 H σ E Q q => h H0 H σ E _ fun v H1 H2 l1 hv => by
  obtain ⟨a, xs, rfl, g1, g2⟩ := hv
  exact q a xs H1 H2 l1 (l1.w a _ g1) g2
theorem ed_lenL (h : EdL B0 B te ρ ds) : Ed B0 B (tCB (fun xs H Q => ∃ x n, xs = [x] ∧ LenV K x H n ∧ Q (V.int ↑n) H) (tCons te tNil)) ρ (.int ds.length) := fun H0 H σ E Q q =>
  h H0 H σ E _ fun a vs H1 H2 l1 h1 h2 => ⟨_, vs.length, rfl, .inl ⟨vs, SqL.of h1, rfl⟩, q _ H1 H2 l1 (by rw [h2.len]; rfl)⟩
theorem ed_lenT (h : Ed B0 B te ρ (.tuple ds)) : Ed B0 B (tCB (fun xs H Q => ∃ x n, xs = [x] ∧ LenV K x H n ∧ Q (V.int ↑n) H) (tCons te tNil)) ρ (.int ds.length) := fun H0 H σ E Q q =>
  h H0 H σ E _ fun v H1 H2 l1 hv => by
    obtain ⟨a, xs, rfl, g1, g2⟩ := hv
    exact ⟨_, xs.length, rfl, .inr ⟨xs, SqT.of (l1.w a _ g1), rfl⟩, q _ H1 H2 l1 (by rw [g2.len]; rfl)⟩
theorem ed_tupL (h : EdL B0 B te ρ ds) : Ed B0 B (tCB (fun xs H Q => ∃ p ys, xs = [V.ref p] ∧ ((SqL K H p ys ∧ ∀ (l : Addr), H l = none → Q (V.ref l) (upd H l (HO.tup ys))) ∨ SqT K H p ys ∧ Q (V.ref p) H)) (tCons te tNil)) ρ (.tuple ds) := fun H0 H σ E Q q =>
  h H0 H σ E _ fun a vs H1 H2 l1 h1 h2 => ⟨a, vs, rfl, .inl ⟨SqL.of h1, fun p hp => by
    have l := Le.new (o := .tup vs) l1.w hp
    exact q _ _ _ (l1.trans l) ⟨p, _, rfl, upd_same, h2.mono l.b⟩⟩⟩
theorem ed_lisL (h : EdL B0 B te ρ ds) : Ed B0 B (tCB (fun xs H Q => ∃ p ys, xs = [V.ref p] ∧ (SqL K H p ys ∨ SqT K H p ys) ∧ ∀ (l : Addr), H l = none → Q (V.ref l) (upd H l (HO.lst ys))) (tCons te tNil)) ρ (.list ds) := fun H0 H σ E Q q =>
  h H0 H σ E _ fun a vs H1 H2 l1 h1 h2 => ⟨a, vs, rfl, .inl (SqL.of h1), fun p hp => by
    have l := Le.new (o := .lst vs) l1.w hp
    exact q _ _ _ (l1.trans l) ⟨p, _, rfl, upd_same, h2.mono l.b⟩⟩
theorem ed_lisT (h : Ed B0 B te ρ (.tuple ds)) : Ed B0 B (tCB (fun xs H Q => ∃ p ys, xs = [V.ref p] ∧ (SqL K H p ys ∨ SqT K H p ys) ∧ ∀ (l : Addr), H l = none → Q (V.ref l) (upd H l (HO.lst ys))) (tCons te tNil)) ρ (.list ds) := fun H0 H σ E Q q =>
  h H0 H σ E _ fun v H1 H2 l1 hv => by
    obtain ⟨a, xs, rfl, g1, g2⟩ := hv
    refine ⟨a, xs, rfl, .inr (SqT.of (l1.w a _ g1)), fun p hp => ?_⟩
    have l := Le.new (o := .lst xs) l1.w hp
    exact q _ _ _ (l1.trans l) ⟨p, _, rfl, upd_same, g2.mono l.b⟩
theorem ed_sumL {ns : List Int} (h : EdL B0 B te ρ (ns.map PyData.int)) : Ed B0 B (tCB (rSum K) (tCons te tNil)) ρ (.int ns.sum) := fun H0 H σ E Q q =>
  h H0 H σ E _ fun a vs H1 H2 l1 h1 h2 => ⟨a, ns, rfl, SqL.of (by rw [← h2.ints]; exact h1), q _ H1 H2 l1 rfl⟩
theorem rc_min2 {i j : Int} : RCd (fun xs H Q => ∃ i j, xs = [V.int i, V.int j] ∧ Q (V.int (if j < i then j else i)) H) [.int i, .int j] (.int (min i j)) := fun H0 H xs w h Q q => by
  match xs, h with
  | [x, y], h =>
    obtain ⟨h1, h2, _⟩ := h
    cases (show x = V.int i from h1)
    cases (show y = V.int j from h2)
    exact ⟨i, j, rfl, q _ H0 H (.refl w) (by show V.int _ = V.int _; congr 1; omega)⟩
theorem rc_intI {i : Int} : RCd (fun xs H Q => (∃ i, xs = [V.int i] ∧ Q (V.int i) H) ∨ ∃ k, xs = [V.bl k] ∧ Q (V.int (if k = true then 1 else 0)) H) [.int i] (.int i) := fun H0 H xs w h Q q => by
  match xs, h with
  | [x], h =>
    cases (show x = V.int i from h.1)
    exact .inl ⟨i, rfl, q _ H0 H (.refl w) rfl⟩
theorem rc_intB {b : Bool} : RCd (fun xs H Q => (∃ i, xs = [V.int i] ∧ Q (V.int i) H) ∨ ∃ k, xs = [V.bl k] ∧ Q (V.int (if k = true then 1 else 0)) H) [.bool b] (.int (if b = true then 1 else 0)) := fun H0 H xs w h Q q => by
  match xs, h with
  | [x], h =>
    cases (show x = V.bl b from h.1)
    exact .inr ⟨b, rfl, q _ H0 H (.refl w) rfl⟩
theorem rc_strI {i : Int} (hi : Nat.log2 i.natAbs < 1920) : RCd (fun xs H Q => ∃ i, xs = [V.int i] ∧ Nat.log2 (Int.natAbs i) < 1920 ∧ Q (V.str (Str.ofString (toString i))) H) [.int i] (.str (Str.ofString (toString i))) := fun H0 H xs w h Q q => by
  match xs, h with
  | [x], h =>
    cases (show x = V.int i from h.1)
    exact ⟨i, rfl, hi, q _ H0 H (.refl w) rfl⟩
end
end HW
end
section
/-! HWLay2: walks, comprehensions, statements, defs, on data. -/
namespace HW
open PySem PySem.Spec PyProof.Rows L2
/-- what a walk gives at turn i: it stands in a frozen part that has grown -/
def YOk (H0 : Hp) (n : Nat) (f : Nat → PyData → Prop) (Y : Nat → Hp → V → Hp → Prop) : Prop := ∀ i Ha H x H', i < n → Ex H0 Ha → Ex Ha H → Y i H x H' → ∀ d, f i d → ∃ Ha', Le Ha H Ha' H' ∧ Dq Ha' d x
section
variable (B0 B : Hp)
/-- a source: n things, the i-th is d where f i d; strong: it goes on while the frozen part stands; weak: while all stands -/
def EdI (wi : TI) (ρ : Rho) {α : Type} (L : List α) (emb : α → PyData) : Prop := ∀ H0 H σ, Eok B0 B H0 H σ ρ → ∀ R : It → Hp → Prop,
  (∀ J H0' H' G Y, Le H0 H H0' H' → Walk J L.length G Y → (∀ H'', Ex H0' H'' → G H'') → YOk H0' L.length (fun i d => ∃ x, L[i]? = some x ∧ d = emb x) Y → R J H') → wi σ H R
def EdW (wi : TI) (ρ : Rho) {α : Type} (L : List α) (emb : α → PyData) : Prop := ∀ H0 H σ, Eok B0 B H0 H σ ρ → ∀ R : It → Hp → Prop,
  (∀ J H0' H' G Y, Le H0 H H0' H' → Walk J L.length G Y → (∀ H'', Ex H' H'' → G H'') → YOk H0' L.length (fun i d => ∃ x, L[i]? = some x ∧ d = emb x) Y → R J H') → wi σ H R
def Gd (g : TG) (ρ : Rho) (d : PyData) (ρ' : Rho) (vs : List Nat) : Prop := ∀ H0 H σ v, Eok B0 B H0 H σ ρ → Dq H0 d v → ∀ Q : Slots → Hp → Prop, (∀ σ', Eok B0 B H0 H σ' ρ' → wipe σ' vs = wipe σ vs → Q σ' H) → g v σ H Q
def GdS (g : TGs) (ρ : Rho) (ds : List PyData) (ρ' : Rho) (vs : List Nat) : Prop := ∀ H0 H σ us, Eok B0 B H0 H σ ρ → DqAll H0 ds us → ∀ Q : Slots → Hp → Prop, (∀ σ', Eok B0 B H0 H σ' ρ' → wipe σ' vs = wipe σ vs → Q σ' H) → g us σ H Q
def Sd (t : TS) (ρ : Rho) (N : Rho → Prop) (R : PyData → Prop) : Prop := ∀ H0 H σ, Eok B0 B H0 H σ ρ → ∀ D : Ends, (∀ ρ' H0' H' σ', N ρ' → Ex H0 H0' → Eok B0 B H0' H' σ' ρ' → D.nx σ' H') →
  (∀ d v H0' H', R d → Le B0 B H0' H' → Dq H0' d v → D.rt v H') → t D σ H
end
section
variable {B0 B : Hp} {ρ ρ' ρ'' : Rho} {d e z : PyData} {ds : List PyData} {ta tb te tc : TE} {tt tu : TT} {K : PySem.W.Frag} {α β : Type}
theorem EdI.weak {wi : TI} {L : List α} {emb : α → PyData} (h : EdI B0 B wi ρ L emb) : EdW B0 B wi ρ L emb := fun H0 H σ E R r =>
  h H0 H σ E R fun J H1 H2 G Y l w g y => r J H1 H2 G Y l w (fun H3 e => g H3 (l.w.trans e)) y
theorem yok_at {H0 : Hp} {vs : List V} {L : List α} {emb : α → PyData} (h : DqAll H0 (L.map emb) vs) : YOk H0 L.length (fun i d => ∃ x, L[i]? = some x ∧ d = emb x) (YAt vs) := by
  rintro i Ha H x H' hi e w ⟨rfl, hx⟩ d ⟨y, hy, rfl⟩
  obtain ⟨v, hv, hd⟩ := h.get (i := i) (d := emb y) (by rw [List.getElem?_map, hy]; rfl)
  rw [hv] at hx
  cases hx
  exact ⟨Ha, .refl w, hd.mono e⟩
theorem ei_list {L : List α} {emb : α → PyData} (h : Ed B0 B te ρ (.list (L.map emb))) : EdI B0 B (iList K te) ρ L emb := fun H0 H σ E R r =>
  h H0 H σ E _ fun v H1 H2 l hv => by
    obtain ⟨a, xs, rfl, g1, g2⟩ := hv
    have hl : xs.length = L.length := by rw [g2.len, List.length_map]
    exact ⟨a, rfl, ⟨xs, SqL.of (l.w a _ g1)⟩, r _ H1 H2 (fun H => SqL K H a xs) _ l (hl ▸ walk_list) (fun H3 e => SqL.of (e a _ g1)) (yok_at g2)⟩
theorem ei_tup {L : List α} {emb : α → PyData} (h : Ed B0 B te ρ (.tuple (L.map emb))) : EdI B0 B (iTup K te) ρ L emb := fun H0 H σ E R r =>
  h H0 H σ E _ fun v H1 H2 l hv => by
    obtain ⟨a, xs, rfl, g1, g2⟩ := hv
    have hl : xs.length = L.length := by rw [g2.len, List.length_map]
    exact ⟨a, rfl, ⟨xs, SqT.of (l.w a _ g1)⟩, r _ H1 H2 (fun H => SqT K H a xs) _ l (hl ▸ walk_tup) (fun H3 e => SqT.of (e a _ g1)) (yok_at g2)⟩
theorem ew_list {L : List α} {emb : α → PyData} (h : EdL B0 B te ρ (L.map emb)) : EdW B0 B (iList K te) ρ L emb := fun H0 H σ E R r =>
  h H0 H σ E _ fun a xs H1 H2 l g1 g2 => by
    have hl : xs.length = L.length := by rw [g2.len, List.length_map]
    exact ⟨a, rfl, ⟨xs, SqL.of g1⟩, r _ H1 H2 (fun H => SqL K H a xs) _ l (hl ▸ walk_list) (fun H3 e => SqL.of (e a _ g1)) (yok_at g2)⟩
theorem walk_range {lo : Int} {n : Nat} : Walk (Itr lo n) n (fun _ => True) (YFn fun i => .int (lo + (i : Nat))) :=
  ⟨fun i H hi _ => hi, fun H _ => Nat.le_refl _, fun i H x H' hi _ y => ⟨y.1, y.2⟩⟩
theorem ei_rng1 {t : TA} {n : Nat} (h : EdA B0 B t ρ [.int n]) (hn : n ≤ 100000) : EdI B0 B (iRng1 t) ρ (List.range n) (fun i => .int (i : Nat)) := fun H0 H σ E R r =>
  h H0 H σ E _ fun vs H1 H2 l hv => by
    match vs, hv with
    | [x], hv =>
      cases (show x = V.int n from hv.1)
      refine ⟨n, rfl, by omega, by omega, r _ H1 H2 (fun _ => True) (YFn fun i => .int (0 + (i : Nat))) l (by rw [List.length_range, Int.toNat_natCast]; exact walk_range) (fun _ _ => trivial) ?_⟩
      rintro i Ha H x H' hi e w ⟨rfl, rfl⟩ d ⟨y, hy, rfl⟩
      refine ⟨Ha, .refl w, ?_⟩
      rw [List.length_range] at hi
      rw [List.getElem?_range hi] at hy
      cases hy
      show V.int (0 + (i : Int)) = V.int i
      rw [Int.zero_add]
theorem ei_rng2 {t : TA} {lo n : Nat} (h : EdA B0 B t ρ [.int lo, .int (lo + n : Nat)]) (hn : lo + n ≤ 100000) : EdI B0 B (iRng2 t) ρ (List.range n) (fun i => .int (lo + i : Nat)) := fun H0 H σ E R r =>
  h H0 H σ E _ fun vs H1 H2 l hv => by
    match vs, hv with
    | [x, y], hv =>
      cases (show x = V.int lo from hv.1)
      cases (show y = V.int (lo + n : Nat) from hv.2.1)
      have en : (((lo + n : Nat) : Int) - (lo : Int)).toNat = n := by omega
      refine ⟨lo, (lo + n : Nat), rfl, ⟨by omega, by omega, by omega, by omega⟩, r _ H1 H2 (fun _ => True) (YFn fun i => .int ((lo : Int) + (i : Nat))) l (by rw [List.length_range, en]; exact walk_range) (fun _ _ => trivial) ?_⟩
      rintro i Ha H x H' hi e w ⟨rfl, rfl⟩ d ⟨y, hy, rfl⟩
      refine ⟨Ha, .refl w, ?_⟩
      rw [List.length_range] at hi
      rw [List.getElem?_range hi] at hy
      cases hy
      show V.int ((lo : Int) + (i : Int)) = V.int (lo + i : Nat)
      rw [Int.natCast_add]
/-- enumerate of a tuple -/
theorem ei_enumT {L : List α} {emb : α → PyData} (h : Ed B0 B te ρ (.tuple (L.map emb))) : EdI B0 B (iEnumT K (tCons te tNil)) ρ ((List.range L.length).zip L) (fun p => .tuple [.int (p.1 : Nat), emb p.2]) := fun H0 H σ E R r =>
  h H0 H σ E _ fun v H1 H2 l hv => by
    obtain ⟨a, xs, rfl, g1, g2⟩ := hv
    have hl : xs.length = L.length := by rw [g2.len, List.length_map]
    have hz : ((List.range L.length).zip L).length = xs.length := by simp [hl]
    refine ⟨a, xs, rfl, SqT.of (l.w a _ g1), r _ H1 H2 (fun H => SqT K H a xs) (YPair (fun i => some (.int (i : Nat))) fun i => xs[i]?) l (hz ▸ walk_pr) (fun H3 e => SqT.of (e a _ g1)) ?_⟩
    rintro i Ha H x H' hi e w ⟨T, x1, y1, rfl, hT, rfl, e1, e2⟩ d ⟨p, hp, rfl⟩
    cases e1
    obtain ⟨q1, q2⟩ := List.getElem?_zip_eq_some.mp hp
    have hi' : i < L.length := (List.getElem?_eq_some_iff.mp q2).1
    rw [List.getElem?_range hi'] at q1
    have q1 := Option.some.inj q1
    obtain ⟨v, hv, hd⟩ := g2.get (i := i) (d := emb p.2) (by rw [List.getElem?_map, q2]; rfl)
    have e2 : xs[i]? = some y1 := e2
    rw [hv] at e2
    cases e2
    have l2 := Le.new (o := .tup [.int (i : Nat), y1]) w hT
    refine ⟨_, l2, T, [.int (i : Nat), y1], rfl, upd_same, ?_, (hd.mono e).mono l2.b, trivial⟩
    show V.int (i : Nat) = V.int (p.1 : Nat)
    rw [← q1]
/-! targets -/
theorem gd_name {j : Nat} {vs : List Nat} (hj : j ∈ vs) : Gd B0 B (gName j) ρ d (ρ.set j (.dat d)) vs := fun H0 H σ v E hv Q q =>
  q _ ⟨E.le, E.env.set (s := .dat d) ⟨v, rfl, hv⟩ j⟩ (wipe_set hj)
theorem gs_nil {vs : List Nat} : GdS B0 B gNil ρ [] ρ vs := fun H0 H σ us E hv Q q => by
  match us, hv with
  | [], _ => exact ⟨rfl, q σ E rfl⟩
theorem gs_cons {g : TG} {gs : TGs} {vs : List Nat} (h : Gd B0 B g ρ d ρ' vs) (hs : GdS B0 B gs ρ' ds ρ'' vs) : GdS B0 B (gCons g gs) ρ (d :: ds) ρ'' vs := fun H0 H σ us E hv Q q => by
  match us, hv with
  | u :: us, hv => exact ⟨u, us, rfl, h H0 H σ u E hv.1 _ fun σ1 E1 w1 => hs H0 H σ1 us E1 hv.2 _ fun σ2 E2 w2 => q σ2 E2 (w2.trans w1)⟩
theorem gd_tup {n : Nat} {gs : TGs} {vs : List Nat} (hs : GdS B0 B gs ρ ds ρ' vs) (hn : ds.length = n) : Gd B0 B (gTup K n gs) ρ (.tuple ds) ρ' vs := fun H0 H σ v E hv Q q => by
  obtain ⟨a, xs, rfl, g1, g2⟩ := hv
  exact ⟨a, xs, rfl, SqT.of (E.le.w a _ g1), by rw [g2.len]; exact hn, hs H0 H σ xs E g2 Q q⟩
/-! comprehensions -/
theorem ed_lcI {wi : TI} {g : TG} {vs : List Nat} {L : List α} {emb : α → PyData} (b : α → Bool) (f : α → PyData) (h : EdW B0 B wi ρ L emb) (hz : L.length ≤ 90000)
    (hs : ∀ (i : Nat) (x : α), L[i]? = some x → ∃ ρ2, Gd B0 B g (wipeR ρ vs) (emb x) ρ2 vs ∧ EdT B0 B tt ρ2 (b x) ∧ (b x = true → Ed B0 B te ρ2 (f x))) :
    Ed B0 B (tLc wi g tt te vs) ρ (.list ((L.filter b).map f)) := fun H0 H σ E Q q =>
  h H0 H σ E _ fun J H1 H2 G Y l w hG hY D hD => by
    have l0 := Le.new (o := .lst []) l.w hD
    refine lc_it w (fun i Hc => ∃ Ha acc, Ex H1 Ha ∧ Ex H2 Hc ∧ Ex Ha Hc ∧ Ha D = none ∧ (∀ a o, H2 a = some o → H1 a = none → Ha a = none) ∧ Hc D = some (.lst acc) ∧ DqAll Ha (((L.take i).filter b).map f) acc ∧ (∀ a, Ha a ≠ none → H1 a = none → a ≠ D))
      ⟨H1, [], .rfl', Evl.Ex.new hD, l.w.trans (Evl.Ex.new hD), Evl.fresh_back l.w hD, fun _ _ _ h => h, upd_same, trivial, fun a h1 h2 => absurd h2 h1⟩ (fun i Hc hi p => hG Hc p.choose_spec.choose_spec.2.1) (fun i x Hc H3 hi p y => ?_) (fun Hc p => ?_)
    · obtain ⟨Ha, acc, p1, p2, p3, p4, p5, p6, p7, p8⟩ := p
      obtain ⟨xi, hxi⟩ : ∃ xi, L[i]? = some xi := ⟨L[i], List.getElem?_eq_getElem hi⟩
      obtain ⟨Ha', l1, hx⟩ := hY i Ha Hc x H3 hi p1 p3 y (emb xi) ⟨xi, hxi, rfl⟩
      obtain ⟨ρ2, g1, t1, e1⟩ := hs i xi hxi
      -- the world at the turn
      have ll : Le H1 H2 Ha Hc := ⟨p1, p2, p3, p5⟩
      have E0 : Eok B0 B Ha Hc σ ρ := (E.leE l).leE ll
      have E1 : Eok B0 B Ha' H3 (wipe σ vs) (wipeR ρ vs) := ⟨(E0.leE l1).le, (E0.leE l1).env.wipe vs⟩
      have tk : L.take (i + 1) = L.take i ++ [xi] := by rw [List.take_succ, hxi]; rfl
      refine g1 Ha' H3 _ x E1 hx _ fun σ2 E2 w2 => ⟨w2.trans wipe_idem, t1 Ha' H3 σ2 E2 _ fun Hb H4 l2 => ?_⟩
      have h4 : H4 D = some (.lst acc) := l2.t D _ (l1.t D _ p6)
      have lb := (ll.trans l1).trans l2
      have hbD : Hb D = none := l2.n D _ (l1.t D _ p6) (l1.n D _ p6 p4)
      cases hb : b xi with
      | false =>
        refine (if_neg (by decide)).mpr ⟨Hb, acc, lb.b, lb.t, lb.w, hbD, lb.n, h4, ?_, fun a ha h1 => ?_⟩
        · rw [tk, List.filter_append, List.filter_cons, hb]
          simp only [Bool.false_eq_true, if_false, List.filter_nil, List.append_nil]
          exact (p7.mono l1.b).mono l2.b
        · intro q
          subst q
          exact ha hbD
      | true =>
        refine (if_pos rfl).mpr (e1 hb Hb H4 σ2 (E2.leE l2) _ fun v Hd H5 l3 hv => ?_)
        have h5 : H5 D = some (.lst acc) := l3.t D _ h4
        have lc := lb.trans l3
        have hdD : Hd D = none := l3.n D _ h4 hbD
        have hu : ∀ (e : Ex Hd H5), Ex Hd (upd H5 D (.lst (acc ++ [v]))) := fun e => Evl.Ex.mut e hdD
        refine ⟨acc, h5, ?_, Hd, acc ++ [v], lc.b, Evl.Ex.mut lc.t hD, hu lc.w, hdD, lc.n, upd_same, ?_, fun a ha h1 q => ?_⟩
        · have := p7.len
          rw [List.length_map] at this
          have h2 := List.length_filter_le b (L.take i)
          have h3 : (L.take i).length ≤ L.length := by rw [List.length_take]; omega
          exact Nat.lt_of_lt_of_le (by omega : acc.length < 100000) (by decide)
        · rw [tk, List.filter_append, List.filter_cons, hb]
          simp only [if_true, List.filter_nil, List.map_append, List.map_cons, List.map_nil]
          exact DqAll.snoc hv (((p7.mono l1.b).mono l2.b).mono l3.b)
        · subst q
          exact ha hdD
    · obtain ⟨Ha, acc, p1, p2, p3, p4, p5, p6, p7, p8⟩ := p
      rw [List.take_length] at p7
      refine q (.ref D) (upd Ha D (.lst acc)) Hc ?_ ⟨D, acc, rfl, upd_same, p7.mono (Evl.Ex.new p4)⟩
      refine l.trans ⟨p1.trans (Evl.Ex.new p4), p2, fun a o ha => ?_, fun a o ha h0 => ?_⟩
      · by_cases qa : a = D
        · subst qa
          rw [upd_same] at ha
          rw [p6]
          exact ha
        · rw [upd_ne qa] at ha
          exact p3 a o ha
      · by_cases qa : a = D
        · subst qa
          rw [hD] at ha
          cases ha
        · rw [upd_ne qa]
          exact p5 a o ha h0
/-- without a test -/
theorem ed_lc1 {wi : TI} {g : TG} {vs : List Nat} {L : List α} {emb : α → PyData} (f : α → PyData) (h : EdW B0 B wi ρ L emb) (hz : L.length ≤ 90000)
    (hs : ∀ (i : Nat) (x : α), L[i]? = some x → ∃ ρ2, Gd B0 B g (wipeR ρ vs) (emb x) ρ2 vs ∧ Ed B0 B te ρ2 (f x)) :
    Ed B0 B (tLc wi g tYes te vs) ρ (.list (L.map f)) := by
  have := ed_lcI (tt := tYes) (fun _ => true) f h hz fun i x hx => by
    obtain ⟨ρ2, g1, e1⟩ := hs i x hx
    exact ⟨ρ2, g1, fun H0 H σ E Q q => q H0 H (.refl E.le.w), fun _ => e1⟩
  rw [List.filter_eq_self.mpr fun _ _ => rfl] at this
  exact this
/-! statements -/
section
variable {N : Rho → Prop} {R : PyData → Prop} {t u : TS}
theorem sd_seq (h : Sd B0 B t ρ (fun ρ1 => Sd B0 B u ρ1 N R) R) : Sd B0 B (tSeq t u) ρ N R := fun H0 H σ E D n r =>
  h H0 H σ E { D with nx := u D } (fun ρ1 H1 H2 σ1 hu e E1 => hu H1 H2 σ1 E1 D (fun ρ2 H3 H4 σ2 k e2 E2 => n ρ2 H3 H4 σ2 k (e.trans e2) E2) r) r
theorem sd_asg {i : Nat} (h : Ed B0 B te ρ d) (k : N (ρ.set i (.dat d))) : Sd B0 B (tAsg te (gName i)) ρ N R := fun H0 H σ E D n r =>
  h H0 H σ E _ fun v H1 H2 l hv => n _ H1 H2 _ k l.b ⟨E.le.trans l, (E.leE l).env.set (s := .dat d) ⟨v, rfl, hv⟩ i⟩
theorem sd_asgG {g : TG} (h : Ed B0 B te ρ d) (hg : Gd B0 B g ρ d ρ' (List.range 40)) (k : N ρ') : Sd B0 B (tAsg te g) ρ N R := fun H0 H σ E D n r =>
  h H0 H σ E _ fun v H1 H2 l hv => hg H1 H2 σ v (E.leE l) hv _ fun σ' E' _ => n _ H1 H2 _ k l.b E'
theorem sd_own {i : Nat} (k : N (ρ.set i (.own []))) : Sd B0 B (tAsg (tLst tNil) (gName i)) ρ N R := fun H0 H σ E D n r =>
  ⟨by decide, fun p hp => by
    have h0 : H0 p = none := Evl.fresh_back E.le.w hp
    have l : Le H0 H H0 (upd H p (.lst [])) := ⟨.rfl', Evl.Ex.new hp, E.le.w.trans (Evl.Ex.new hp), fun _ _ _ h => h⟩
    exact n _ H0 _ _ k .rfl' ⟨E.le.trans l, (E.leE l).env.set (s := .own []) ⟨p, [], rfl, Evl.fresh_back E.le.t hp, h0, upd_same, trivial⟩ i⟩⟩
theorem sd_ret (h : Ed B0 B te ρ d) (k : R d) : Sd B0 B (tRet te) ρ N R := fun H0 H σ E D n r =>
  h H0 H σ E _ fun v H1 H2 l hv => r d v H1 H2 k (E.le.trans l) hv
theorem sd_retL (h : EdL B0 B te ρ ds) (hB : ∃ i, te = tVar i ∧ ρ[i]? = some (.own ds)) (k : R (.list ds)) : Sd B0 B (tRet te) ρ N R := fun H0 H σ E D n r => by
  obtain ⟨i, rfl, hi⟩ := hB
  obtain ⟨x, hx, p, vs, rfl, h1, h2, h3, h4⟩ := E.env.get hi
  refine ⟨_, hx, r _ _ (upd H0 p (.lst vs)) H k ⟨E.le.b.trans (Evl.Ex.new h2), E.le.t, fun a o ha => ?_, fun a o ha h0 => ?_⟩ ⟨p, vs, rfl, upd_same, h4.mono (Evl.Ex.new h2)⟩⟩
  · by_cases qa : a = p
    · subst qa
      rw [upd_same] at ha
      rw [h3]
      exact ha
    · rw [upd_ne qa] at ha
      exact E.le.w a o ha
  · have qa : a ≠ p := fun q => by subst q; rw [h1] at ha; cases ha
    rw [upd_ne qa]
    exact E.le.n a o ha h0
theorem sd_retOwn {i : Nat} (hi : ρ[i]? = some (.own ds)) (k : R (.list ds)) : Sd B0 B (tRet (tVar i)) ρ N R := sd_retL (el_own hi) ⟨i, rfl, hi⟩ k
theorem sd_if {b : Bool} (h : EdT B0 B tt ρ b) (h1 : b = true → Sd B0 B t ρ N R) (h2 : b = false → Sd B0 B u ρ N R) : Sd B0 B (tIfS tt t u) ρ N R := fun H0 H σ E D n r =>
  h H0 H σ E _ fun H1 H2 l => by
    cases b with
    | true => exact h1 rfl H1 H2 σ (E.leE l) D (fun ρ2 H3 H4 σ2 k e2 E2 => n ρ2 H3 H4 σ2 k (l.b.trans e2) E2) r
    | false => exact h2 rfl H1 H2 σ (E.leE l) D (fun ρ2 H3 H4 σ2 k e2 E2 => n ρ2 H3 H4 σ2 k (l.b.trans e2) E2) r
theorem sd_next (k : N ρ) : Sd B0 B tNext ρ N R := fun H0 H σ E D n r => n ρ H0 H σ k .rfl' E
theorem sd_drop (h : Ed B0 B te ρ d) (k : N ρ) : Sd B0 B (tDrop te) ρ N R := fun H0 H σ E D n r => h H0 H σ E _ fun v H1 H2 l hv => n ρ H1 H2 σ k l.b (E.leE l)
theorem sd_aug {i : Nat} {f : Int → Int → Int} {a b : Int} (hx : ρ[i]? = some (.dat (.int a))) (h : Ed B0 B te ρ (.int b)) (k : N (ρ.set i (.dat (.int (f a b))))) : Sd B0 B (tAug i te (ipI f)) ρ N R := fun H0 H σ E D n r => by
  obtain ⟨x, h1, v, rfl, hv⟩ := E.env.get hx
  cases (show v = V.int a from hv)
  refine ⟨_, h1, h H0 H σ E _ fun w H1 H2 l hw => ⟨a, b, rfl, hw, n _ H1 H2 _ k l.b ⟨E.le.trans l, (E.leE l).env.set (s := .dat (.int (f a b))) ⟨_, rfl, rfl⟩ i⟩⟩⟩
/-- no list that may change -/
def noOwn : Rho → Bool
  | [] => true
  | .own _ :: _ => false
  | .box _ _ :: _ => false
  | .lat _ _ :: _ => false
  | _ :: ρ => noOwn ρ
theorem env_mut {B H0 H : Hp} {p : Addr} {o : HO} : ∀ {σ : Slots} {ρ : Rho}, noOwn ρ = true → EnvOk B H0 H σ ρ → EnvOk B H0 (upd H p o) σ ρ
  | [], [], _, _ => trivial
  | x :: σ, .any :: ρ, n, h => ⟨trivial, env_mut n h.2⟩
  | x :: σ, .dat d :: ρ, n, h => ⟨h.1, env_mut n h.2⟩
  | x :: σ, .raw v :: ρ, n, h => ⟨h.1, env_mut n h.2⟩
  | x :: σ, .dct v :: ρ, n, h => ⟨h.1, env_mut n h.2⟩
  | x :: σ, .own v :: ρ, n, h => by cases n
  | x :: σ, .box _ _ :: ρ, n, h => by cases n
  | x :: σ, .lat _ _ :: ρ, n, h => by cases n
  | [], _ :: _, _, h => h.elim
  | _ :: _, [], _, h => h.elim
theorem set_back {i : Nat} {s : Sv} (ρ : Rho) (h : ρ[i]? = some s) (s' : Sv) : (ρ.set i .any).set i s' = ρ.set i s' := by rw [List.set_set]
theorem env_any {B H0 H : Hp} {σ : Slots} {ρ : Rho} (i : Nat) (h : EnvOk B H0 H σ ρ) : EnvOk B H0 H σ (ρ.set i .any) := by
  induction σ generalizing ρ i with
  | nil => cases ρ with
    | nil => exact trivial
    | cons _ _ => exact h.elim
  | cons x σ ih => cases ρ with
    | nil => exact h.elim
    | cons s ρ => cases i with
      | zero => exact ⟨trivial, h.2⟩
      | succ i => exact ⟨h.1, ih i h.2⟩
theorem sd_app {i : Nat} (hi : ρ[i]? = some (.own ds)) (h : Ed B0 B te ρ d) (hn : noOwn (ρ.set i .any) = true) (hz : ds.length < 100000) (k : N (ρ.set i (.own (ds ++ [d])))) :
    Sd B0 B (tDrop (tBM K "list" rAppend (tVar i) (tCons te tNil))) ρ N R := fun H0 H σ E D n r => by
  obtain ⟨x, hx, p, vs, rfl, h1, h2, h3, h4⟩ := E.env.get hi
  refine ⟨_, hx, .inl ⟨rfl, vs, SqL.of h3⟩, h H0 H σ E _ fun v H1 H2 l hv => ⟨p, vs, v, rfl, rfl, l.t p _ h3, Nat.lt_of_lt_of_le (by rw [h4.len]; exact hz) (by decide : 100000 ≤ sizeLine), ?_⟩⟩
  have p1 : H1 p = none := l.n p _ h3 h2
  have E1 := E.leE l
  have le1 : Le B0 B H1 (upd H2 p (.lst (vs ++ [v]))) := ⟨E1.le.b, Evl.Ex.mut E1.le.t h1, Evl.Ex.mut E1.le.w p1, E1.le.n⟩
  refine n _ H1 _ _ k l.b ⟨le1, ?_⟩
  have e1 := env_mut (p := p) (o := .lst (vs ++ [v])) hn (env_any i E1.env)
  have e2 := e1.set (x := some (.ref p)) (s := .own (ds ++ [d])) ⟨p, vs ++ [v], rfl, h1, p1, upd_same, DqAll.snoc hv (h4.mono l.b)⟩ i
  rw [List.set_set] at e2
  have e3 : σ.set i (some (.ref p)) = σ := by
    apply List.ext_getElem?
    intro j
    by_cases q : i = j
    · subst q
      rw [List.getElem?_set_self (List.getElem?_eq_some_iff.mp hx).1, hx]
    · rw [List.getElem?_set_ne q]
  rw [e3] at e2
  exact e2
theorem sd_mid {M : Rho → Prop} (h : Sd B0 B t ρ M R) (k : ∀ ρ1, M ρ1 → N ρ1) : Sd B0 B t ρ N R := fun H0 H σ E D n r => h H0 H σ E D (fun ρ1 H1 H2 σ1 m => n ρ1 H1 H2 σ1 (k ρ1 m)) r
theorem sd_for {wi : TI} {g : TG} {L : List α} {emb : α → PyData} (h : EdI B0 B wi ρ L emb) (Inv : Nat → Rho → Prop) (h0 : Inv 0 ρ)
    (hs : ∀ (i : Nat) (x : α) ρ1, L[i]? = some x → Inv i ρ1 → ∃ ρ2, Gd B0 B g ρ1 (emb x) ρ2 (List.range 40) ∧ Sd B0 B t ρ2 (Inv (i + 1)) R) (hd : ∀ ρ1, Inv L.length ρ1 → N ρ1) : Sd B0 B (tFor wi g t) ρ N R := fun H0 H σ E D n r =>
  h H0 H σ E _ fun J H1 H2 G Y l w hG hY => by
    refine for_it w (fun i σ1 Hc => ∃ ρ1 Ha, Inv i ρ1 ∧ Eok B0 B Ha Hc σ1 ρ1 ∧ Ex H1 Ha) ⟨ρ, H1, h0, E.leE l, .rfl'⟩ (fun i σ1 Hc hi ⟨ρ1, Ha, p1, p2, p3⟩ => hG Hc (p3.trans p2.le.w)) (fun i x σ1 Hc H3 hi ⟨ρ1, Ha, p1, p2, p3⟩ y => ?_) (fun σ1 Hc ⟨ρ1, Ha, p1, p2, p3⟩ => n ρ1 Ha Hc σ1 (hd ρ1 p1) (l.b.trans p3) p2)
    obtain ⟨xi, hxi⟩ : ∃ xi, L[i]? = some xi := ⟨L[i], List.getElem?_eq_getElem hi⟩
    obtain ⟨Ha', l1, hx⟩ := hY i Ha Hc x H3 hi p3 p2.le.w y (emb xi) ⟨xi, hxi, rfl⟩
    obtain ⟨ρ2, g1, s1⟩ := hs i xi ρ1 hxi p1
    refine g1 Ha' H3 σ1 x (p2.leE l1) hx _ fun σ2 E2 w2 => ?_
    exact s1 Ha' H3 σ2 E2 _ (fun ρ3 H5 H6 σ3 i3 e3 E3 => ⟨ρ3, H5, i3, E3, (p3.trans l1.b).trans e3⟩) r
/-- x = {cell: e for cell in ..} -/
theorem sd_dcT {i : Nat} {wi : TI} {g : TG} {tk tv : TE} {vs : List Nat} {L : List (Nat × Nat)} {emb : Nat × Nat → PyData} (f : Nat × Nat → Int) (h : EdW B0 B wi ρ L emb) (hz : L.length ≤ 90000)
    (hs : ∀ (i : Nat) (c : Nat × Nat), L[i]? = some c → ∃ ρ2, Gd B0 B g (wipeR ρ vs) (emb c) ρ2 vs ∧ Ed B0 B tk ρ2 (.tuple [.int (c.1 : Int), .int (c.2 : Int)]) ∧ Ed B0 B tv ρ2 (.int (f c)))
    (k : N (ρ.set i (.dct fun c => if c ∈ L then some (f c) else none))) :
    Sd B0 B (tAsg (tDcT wi g tYes tk tv vs) (gName i)) ρ N R := fun H0 H σ E Dn n r =>
  h H0 H σ E _ fun J H1 H2 G Y l w hG hY D hD => by
    have l0 := Le.new (o := .dT []) l.w hD
    refine dc_it w (fun i Hc => ∃ Ha kvs, Ex H1 Ha ∧ Ex H2 Hc ∧ Ex Ha Hc ∧ Ha D = none ∧ (∀ a o, H2 a = some o → H1 a = none → Ha a = none) ∧ Hc D = some (.dT kvs) ∧ kvs.length ≤ i ∧ (∀ c, valV kvs (keyC c) = (if c ∈ L.take i then some (f c) else none).map V.int))
      ⟨H1, [], .rfl', Evl.Ex.new hD, l.w.trans (Evl.Ex.new hD), Evl.fresh_back l.w hD, fun _ _ _ h => h, upd_same, Nat.zero_le _, fun c => by simp [valV]⟩ (fun i Hc hi p => hG Hc p.choose_spec.choose_spec.2.1) (fun i x Hc H3 hi p y => ?_) (fun Hc p => ?_)
    · obtain ⟨Ha, kvs, p1, p2, p3, p4, p5, p6, p7, p8⟩ := p
      obtain ⟨xi, hxi⟩ : ∃ xi, L[i]? = some xi := ⟨L[i], List.getElem?_eq_getElem hi⟩
      obtain ⟨Ha', l1, hx⟩ := hY i Ha Hc x H3 hi p1 p3 y (emb xi) ⟨xi, hxi, rfl⟩
      obtain ⟨ρ2, g1, k1, e1⟩ := hs i xi hxi
      have ll : Le H1 H2 Ha Hc := ⟨p1, p2, p3, p5⟩
      have E0 : Eok B0 B Ha Hc σ ρ := (E.leE l).leE ll
      have E1 : Eok B0 B Ha' H3 (wipe σ vs) (wipeR ρ vs) := ⟨(E0.leE l1).le, (E0.leE l1).env.wipe vs⟩
      have tk : L.take (i + 1) = L.take i ++ [xi] := by rw [List.take_succ, hxi]; rfl
      refine g1 Ha' H3 _ x E1 hx _ fun σ2 E2 w2 => ⟨w2.trans wipe_idem, ?_⟩
      simp only [tYes, if_true]
      refine k1 Ha' H3 σ2 E2 _ fun u Hb H4 l2 hu => e1 Hb H4 σ2 (E2.leE l2) _ fun v Hd H5 l3 hv => ?_
      cases (show v = V.int (f xi) from hv)
      have lc := ((ll.trans l1).trans l2).trans l3
      have h5 : H5 D = some (.dT kvs) := l3.t D _ (l2.t D _ (l1.t D _ p6))
      have hdD : Hd D = none := l3.n D _ (l2.t D _ (l1.t D _ p6)) (l2.n D _ (l1.t D _ p6) (l1.n D _ p6 p4))
      obtain ⟨q, rfl, hq⟩ := keyC_of hu
      refine ⟨kvs, keyC xi, q, rfl, l3.t q _ (l2.w q _ hq), h5, Nat.lt_of_lt_of_le (by omega : kvs.length < 100000) (by decide), Hd, _, lc.b, Evl.Ex.mut lc.t hD, Evl.Ex.mut lc.w hdD, hdD, lc.n, upd_same, ?_, fun c => ?_⟩
      · have := length_putK kvs (keyC xi) (.int (f xi))
        omega
      · rw [valV_put]
        by_cases hc : c = xi
        · subst hc
          rw [if_pos rfl, tk, if_pos (by simp)]
          rfl
        · rw [if_neg (fun z => hc (by
            have z1 : (c.1 : Int) = xi.1 := by injection z with a b; injection a
            have z2 : (c.2 : Int) = xi.2 := by injection z with a b; injection b with a b; injection a
            exact Prod.ext (by omega) (by omega))), p8 c, tk]
          simp [hc]
    · obtain ⟨Ha, kvs, p1, p2, p3, p4, p5, p6, p7, p8⟩ := p
      rw [List.take_length] at p8
      have lx : Le H0 H (upd Ha D (.dT kvs)) Hc := by
        refine l.trans ⟨p1.trans (Evl.Ex.new p4), p2, fun a o ha => ?_, fun a o ha h0 => ?_⟩
        · by_cases qa : a = D
          · subst qa
            rw [upd_same] at ha
            rw [p6]
            exact ha
          · rw [upd_ne qa] at ha
            exact p3 a o ha
        · by_cases qa : a = D
          · subst qa
            rw [hD] at ha
            cases ha
          · rw [upd_ne qa]
            exact p5 a o ha h0
      exact n _ _ Hc _ k lx.b ⟨E.le.trans lx, (E.leE lx).env.set (s := .dct fun c => if c ∈ L then some (f c) else none) ⟨_, rfl, D, kvs, rfl, upd_same, p8⟩ i⟩
end
end
end HW
end
section
/-! HWLay3: defs on data. -/
namespace HW
open PySem PySem.Spec PyProof.Rows L2
/-- a def from data to data -/
def spD (n : Nat) (f : List PyData → PyData → Prop) : Sp := fun vs H Q _ => ∃ H0 ds d, Ex H0 H ∧ DqAll H0 ds vs ∧ ds.length = n ∧ f ds d ∧ ∀ v H0' H', Le H0 H H0' H' → Dq H0' d v → Q v H'
/-- slots at the start -/
def startR (N : List Str) (ds : List PyData) : Rho := ds.map Sv.dat ++ List.replicate (N.length - ds.length) .any
section
variable {B0 B : Hp} {ρ : Rho} {d : PyData} {ds : List PyData} {f : List PyData → PyData → Prop}
theorem ed_call {n : Nat} {t : TA} {E : XK} (h : EdA B0 B t ρ ds) (hf : f ds d) (hn : ds.length = n := by rfl) : Ed B0 B (tCall (spD n f) [] E t) ρ d := fun H0 H σ Ek Q q =>
  h H0 H σ Ek _ fun vs H1 H2 l hv => by
    show spD n f (vs ++ []) H2 Q E
    rw [List.append_nil]
    exact ⟨H1, ds, d, l.w, hv, hn, hf, fun v H3 H4 l2 hz => q v H3 H4 (l.trans l2) hz⟩
theorem env_any_rep {B H0 H : Hp} : ∀ n : Nat, EnvOk B H0 H (List.replicate n none) (List.replicate n .any)
  | 0 => trivial
  | n + 1 => ⟨trivial, env_any_rep n⟩
theorem env_start {B H0 H : Hp} {σ : Slots} {ρ : Rho} (h : EnvOk B H0 H σ ρ) : ∀ {ds : List PyData} {vs : List V}, DqAll H0 ds vs → EnvOk B H0 H (vs.map some ++ σ) (ds.map Sv.dat ++ ρ)
  | [], [], _ => h
  | _ :: _, _ :: _, k => ⟨⟨_, rfl, k.1⟩, env_start h k.2⟩
  | [], _ :: _, k => k.elim
  | _ :: _, [], k => k.elim
theorem eok_start {H0 H : Hp} {N : List Str} {vs : List V} (w : Ex H0 H) (h : DqAll H0 ds vs) : Eok H0 H H0 H (L2.start N vs) (startR N ds) := ⟨.refl w, by
  unfold L2.start startR
  rw [h.len]
  exact env_start (env_any_rep _) h⟩
/-- the body's reading, from its law on data -/
theorem sd_run {n : Nat} {t : TS} {N : List Str} {vs : List V} {H : Hp} {Q : VK} {E : XK} (h : spD n f vs H Q E) (hs : ∀ H0 H ds d, f ds d → Sd H0 H t (startR N ds) (fun _ => d = .none) (fun e => e = d)) : t { nx := fun _ H' => Q .non H', rt := Q } (L2.start N vs) H := by
  obtain ⟨H0, ds, d, w, hv, hn, hf, q⟩ := h
  refine hs H0 H ds d hf H0 H _ (eok_start w hv) _ (fun ρ' H1 H2 σ' e _ E => q _ H1 H2 E.le (by subst e; rfl)) fun e v H1 H2 he l hz => q v H1 H2 l (by rw [← he]; exact hz)
theorem spD_len {ps : List Str} {vs : List V} {H : Hp} {Q : VK} {E : XK} (h : spD ps.length f vs H Q E) : vs.length = ps.length := by
  obtain ⟨H0, ds, d, w, hv, hn, hf, q⟩ := h
  rw [hv.len]
  exact hn
end
section
variable {B0 B : Hp} {ρ : Rho} {α β : Type}
theorem env_b {B H0 H0' H H' : Hp} (e : Ex H0 H0') : ∀ {σ : Slots} {ρ : Rho}, noOwn ρ = true → EnvOk B H0 H σ ρ → EnvOk B H0' H' σ ρ
  | [], [], _, _ => trivial
  | x :: σ, .any :: ρ, n, h => ⟨trivial, env_b e n h.2⟩
  | x :: σ, .dat d :: ρ, n, h => ⟨by obtain ⟨v, e1, h1⟩ := h.1; exact ⟨v, e1, h1.mono e⟩, env_b e n h.2⟩
  | x :: σ, .raw v :: ρ, n, h => ⟨h.1, env_b e n h.2⟩
  | x :: σ, .dct v :: ρ, n, h => ⟨by obtain ⟨v, e1, h1⟩ := h.1; exact ⟨v, e1, h1.mono e⟩, env_b e n h.2⟩
  | x :: σ, .own v :: ρ, n, h => by cases n
  | x :: σ, .box _ _ :: ρ, n, h => by cases n
  | x :: σ, .lat _ _ :: ρ, n, h => by cases n
  | [], _ :: _, _, h => h.elim
  | _ :: _, [], _, h => h.elim
theorem noOwn_wipe : ∀ {ρ : Rho} (i : Nat), noOwn ρ = true → noOwn (ρ.set i .any) = true
  | [], _, _ => rfl
  | .own _ :: ρ, _, h => by cases h
  | .box _ _ :: ρ, _, h => by cases h
  | .lat _ _ :: ρ, _, h => by cases h
  | .any :: ρ, 0, h => h
  | .dat _ :: ρ, 0, h => h
  | .raw _ :: ρ, 0, h => h
  | .dct _ :: ρ, 0, h => h
  | .any :: ρ, i + 1, h => noOwn_wipe (ρ := ρ) i h
  | .dat _ :: ρ, i + 1, h => noOwn_wipe (ρ := ρ) i h
  | .raw _ :: ρ, i + 1, h => noOwn_wipe (ρ := ρ) i h
  | .dct _ :: ρ, i + 1, h => noOwn_wipe (ρ := ρ) i h
theorem ed_lc2 {wi wi1 : TI} {g g1 : TG} {te : TE} {vs vs1 : List Nat} {L : List α} {emb : α → PyData} (L1 : α → List β) (emb1 : β → PyData) (f : α → β → PyData) (h : EdW B0 B wi ρ L emb) (hz : (L.flatMap L1).length ≤ 90000)
    (hs : ∀ (i : Nat) (x : α), L[i]? = some x → ∃ ρ2, Gd B0 B g (wipeR ρ vs) (emb x) ρ2 vs ∧ noOwn ρ2 = true ∧ EdI B0 B wi1 ρ2 (L1 x) emb1 ∧ ∀ (j : Nat) (y : β), (L1 x)[j]? = some y → ∃ ρ3, Gd B0 B g1 (wipeR ρ2 vs1) (emb1 y) ρ3 vs1 ∧ Ed B0 B te ρ3 (f x y)) :
    Ed B0 B (tLc2 wi g tYes wi1 g1 tYes te vs vs1) ρ (.list (L.flatMap fun x => (L1 x).map (f x))) := fun H0 H σ E Q q =>
  h H0 H σ E _ fun J H1 H2 G Y l w hG hY D hD => by
    -- what is made so far: acc, frozen part Ha
    let Mk : List PyData → Hp → Prop := fun out Hc => ∃ Ha acc, Ex H1 Ha ∧ Ex H2 Hc ∧ Ex Ha Hc ∧ Ha D = none ∧ (∀ a o, H2 a = some o → H1 a = none → Ha a = none) ∧ Hc D = some (.lst acc) ∧ DqAll Ha out acc
    have start : Mk [] (upd H2 D (.lst [])) := ⟨H1, [], .rfl', Evl.Ex.new hD, l.w.trans (Evl.Ex.new hD), Evl.fresh_back l.w hD, fun _ _ _ h => h, upd_same, trivial⟩
    let out : Nat → List PyData := fun i => (L.take i).flatMap fun x => (L1 x).map (f x)
    refine ⟨fun i m Hc => m = L.length - i ∧ i ≤ L.length ∧ Mk (out i) Hc, ⟨L.length, by simp, Nat.zero_le _, start⟩, ?_⟩
    rintro i m Hc ⟨rfl, hi, p⟩
    obtain ⟨Ha, acc, p1, p2, p3, p4, p5, p6, p7⟩ := id p
    have hg := hG Hc p2
    by_cases hlt : i < L.length
    · refine .inr ⟨w.goes i Hc hlt hg, Mk (out (i + 1)), fun H' p' => ⟨L.length - (i + 1), by omega, rfl, hlt, p'⟩, fun x H3 y => ?_⟩
      have hxi : L[i]? = some L[i] := List.getElem?_eq_getElem hlt
      generalize L[i] = xi at hxi
      obtain ⟨Ha', l1, hx⟩ := hY i Ha Hc x H3 hlt p1 p3 (w.yields i Hc x H3 hlt hg y) (emb xi) ⟨xi, hxi, rfl⟩
      obtain ⟨ρ2, g1, no2, t1, e1⟩ := hs i xi hxi
      have ll : Le H1 H2 Ha Hc := ⟨p1, p2, p3, p5⟩
      have E0 : Eok B0 B Ha Hc σ ρ := (E.leE l).leE ll
      have E1 : Eok B0 B Ha' H3 (wipe σ vs) (wipeR ρ vs) := ⟨(E0.leE l1).le, (E0.leE l1).env.wipe vs⟩
      have ok : out (i + 1) = out i ++ (L1 xi).map (f xi) := by
        show (L.take (i + 1)).flatMap _ = _
        rw [List.take_succ, hxi]
        show (L.take i ++ [xi]).flatMap _ = _
        rw [List.flatMap_append]
        simp [out]
      have bound : ∀ j, (out i ++ ((L1 xi).take j).map (f xi)).length ≤ 90000 := fun j => by
        have h1 : (out (i + 1)).length ≤ (L.flatMap L1).length := by
          show ((L.take (i + 1)).flatMap _).length ≤ _
          have h3 : ∀ M : List α, (M.flatMap fun x => (L1 x).map (f x)).length = (M.flatMap L1).length := fun M => by
            induction M with
            | nil => rfl
            | cons a M ih => rw [List.flatMap_cons, List.flatMap_cons, List.length_append, List.length_append, ih, List.length_map]
          rw [h3]
          have h2 := List.take_append_drop (i + 1) L
          have h4 : (L.flatMap L1).length = ((L.take (i + 1)).flatMap L1).length + ((L.drop (i + 1)).flatMap L1).length := by
            rw [← List.length_append, ← List.flatMap_append, h2]
          omega
        rw [ok, List.length_append, List.length_map] at h1
        rw [List.length_append, List.length_map, List.length_take]
        omega
      refine g1 Ha' H3 _ x E1 hx _ fun σ2 E2 w2 => ⟨w2.trans wipe_idem, ?_⟩
      show wi1 σ2 H3 _
      refine t1 Ha' H3 σ2 E2 _ fun J1 H4 H5 G1 Y1 l4 w1 hG1 hY1 => ?_
      have l14 := l1.trans l4
      have lx := ll.trans l14
      refine ⟨fun j m Hc' => m = (L1 xi).length - j ∧ j ≤ (L1 xi).length ∧ ∃ Hb acc', Ex H4 Hb ∧ Ex H2 Hc' ∧ Ex Hb Hc' ∧ Hb D = none ∧ (∀ a o, H2 a = some o → H1 a = none → Hb a = none) ∧ Hc' D = some (.lst acc') ∧ DqAll Hb (out i ++ ((L1 xi).take j).map (f xi)) acc', ⟨(L1 xi).length, by simp, Nat.zero_le _, ?_⟩, ?_⟩
      · have h5 : H5 D = some (.lst acc) := l14.t D _ p6
        refine ⟨H4, acc, .rfl', lx.t, l4.w, l14.n D _ p6 p4, lx.n, h5, ?_⟩
        simp only [List.take_zero, List.map_nil, List.append_nil]
        exact p7.mono l14.b
      · rintro j m Hc' ⟨rfl, hj, Hb, acc', b1, b3, b4, b5, b6, b7, b8⟩
        have hg1 := hG1 Hc' (b1.trans b4)
        by_cases hjl : j < (L1 xi).length
        · refine .inr ⟨w1.goes j Hc' hjl hg1, fun H' => ∃ Hb acc', Ex H4 Hb ∧ Ex H2 H' ∧ Ex Hb H' ∧ Hb D = none ∧ (∀ a o, H2 a = some o → H1 a = none → Hb a = none) ∧ H' D = some (.lst acc') ∧ DqAll Hb (out i ++ ((L1 xi).take (j + 1)).map (f xi)) acc',
            fun H' p' => ⟨(L1 xi).length - (j + 1), by omega, rfl, hjl, p'⟩, fun x1 H6 y1 => ?_⟩
          have hyi : (L1 xi)[j]? = some (L1 xi)[j] := List.getElem?_eq_getElem hjl
          generalize (L1 xi)[j] = yj at hyi
          obtain ⟨Hb', l5, hx1⟩ := hY1 j Hb Hc' x1 H6 hjl b1 b4 (w1.yields j Hc' x1 H6 hjl hg1 y1) (emb1 yj) ⟨yj, hyi, rfl⟩
          obtain ⟨ρ3, g3, e3⟩ := e1 j yj hyi
          have lb : Le H1 H2 Hb' H6 := Le.trans ⟨(ll.trans l14).b.trans b1, b3, b4, b6⟩ l5
          have E6 : Eok B0 B Hb' H6 (wipe σ2 vs1) (wipeR ρ2 vs1) := ⟨(E.leE l).le.trans lb, (env_b (H := H3) ((l4.b.trans b1).trans l5.b) no2 E2.env).wipe vs1⟩
          refine g3 Hb' H6 _ x1 E6 hx1 _ fun σ3 E7 w3 => ⟨w3.trans wipe_idem, ?_⟩
          simp only [tYes, if_true]
          refine e3 Hb' H6 σ3 E7 _ fun v Hd H7 l6 hv => ?_
          have h6 : H6 D = some (.lst acc') := l5.t D _ b7
          have h7 : H7 D = some (.lst acc') := l6.t D _ h6
          have hdD : Hd D = none := l6.n D _ h6 (l5.n D _ b7 b5)
          have lc := lb.trans l6
          have tk : (L1 xi).take (j + 1) = (L1 xi).take j ++ [yj] := by rw [List.take_succ, hyi]; rfl
          refine ⟨acc', h7, ?_, Hd, acc' ++ [v], (b1.trans l5.b).trans l6.b, Evl.Ex.mut lc.t hD, Evl.Ex.mut lc.w hdD, hdD, lc.n, upd_same, ?_⟩
          · rw [b8.len]
            exact Nat.lt_of_le_of_lt (bound j) (by decide)
          · rw [tk, List.map_append, ← List.append_assoc]
            exact DqAll.snoc hv ((b8.mono l5.b).mono l6.b)
        · have e : j = (L1 xi).length := by omega
          subst e
          refine .inl ⟨w1.stops Hc' hg1, ⟨Hb, acc', lx.b.trans b1, b3, b4, b5, b6, b7, ?_⟩⟩
          rw [ok]
          rw [List.take_length] at b8
          exact b8
    · have e : i = L.length := by omega
      subst e
      refine .inl ⟨w.stops Hc hg, ?_⟩
      have eo : out L.length = L.flatMap fun x => (L1 x).map (f x) := by show (L.take L.length).flatMap _ = _; rw [List.take_length]
      rw [eo] at p7
      refine q (.ref D) (upd Ha D (.lst acc)) Hc ?_ ⟨D, acc, rfl, upd_same, p7.mono (Evl.Ex.new p4)⟩
      refine l.trans ⟨p1.trans (Evl.Ex.new p4), p2, fun a o ha => ?_, fun a o ha h0 => ?_⟩
      · by_cases qa : a = D
        · subst qa
          rw [upd_same] at ha
          rw [p6]
          exact ha
        · rw [upd_ne qa] at ha
          exact p3 a o ha
      · by_cases qa : a = D
        · subst qa
          rw [hD] at ha
          cases ha
        · rw [upd_ne qa]
          exact p5 a o ha h0
end
end HW
end
section
/-! HWData: a basin, rights, claims, plans as data; rules for the readings' operations on data. -/
namespace HW
open PySem PySem.Spec PyProof.Rows L2
/-! the rules within a comprehension's block: the written part named -/
section
variable {X : Cx} {K : PySem.W.Frag}
theorem un65 {k : Nat} {A : Around} (hr : Room k A) : A.units + 65 < cLine := by
  have := hr.un
  omega
theorem op_eqK (hK : X.K = K) (hu : X.A.units + 64 < cLine) : OpR X (compareOp .Eq) (rEqD K) := hK ▸ op_eqD hu
theorem op_neK (hK : X.K = K) (hu : X.A.units + 64 < cLine) : OpR X (compareOp .NotEq) (rNeD K) := hK ▸ op_neD hu
theorem op_inK (hK : X.K = K) (hu : X.A.units + 65 < cLine) : OpR X (compareOp .In) (rInD K) := hK ▸ op_inD hu
/-- x in t, a tuple of data of any depth -/
def rInTD (K : PySem.W.Frag) : R2 := fun x y H Q => ∃ d ds, Dp K H x d ∧ Dp K H y (.tuple ds) ∧ SeqAt.shaped d = true ∧ SeqAt.shaped (.tuple ds) = true ∧ Q (.bl (ds.any fun z => PyData.eqv z d)) H
theorem op_inTD (hu : X.A.units + 65 < cLine) : OpR X (compareOp .In) (rInTD X.K) := by
  intro pins s σ H x y v u Q I rx ry h
  obtain ⟨d, ds, hd, he, sd, se, q⟩ := h
  obtain ⟨as, r1⟩ := Dp.reads I d x v hd rx
  obtain ⟨bs, r2⟩ := Dp.reads I (.tuple ds) y u he ry
  exact SeqAt.in_tuple_reads r2 r1 (SeqAt.canLay_of_shaped se) (SeqAt.canLay_of_shaped sd) (room_in_shaped sd hu) ⟨.bl _, H, I, rfl, q⟩
theorem op_inTK (hK : X.K = K) (hu : X.A.units + 65 < cLine) : OpR X (compareOp .In) (rInTD K) := hK ▸ op_inTD hu
theorem op_niK (hK : X.K = K) (hu : X.A.units + 65 < cLine) : OpR X (compareOp .NotIn) (rNotInD K) := hK ▸ op_notInD hu
theorem call_lenK (hK : X.K = K) : CallR X (.builtin "len") (fun xs H Q => ∃ x n, xs = [x] ∧ LenV K x H n ∧ Q (V.int (n : Nat)) H) := hK ▸ call_len
theorem call_tupK (hK : X.K = K) : CallR X (.type "tuple") (fun xs H Q => ∃ p ys, xs = [V.ref p] ∧ ((SqL K H p ys ∧ ∀ (l : Addr), H l = none → Q (V.ref l) (upd H l (HO.tup ys))) ∨ SqT K H p ys ∧ Q (V.ref p) H)) := hK ▸ call_tuple_of
theorem call_lisK (hK : X.K = K) : CallR X (.type "list") (fun xs H Q => ∃ p ys, xs = [V.ref p] ∧ (SqL K H p ys ∨ SqT K H p ys) ∧ ∀ (l : Addr), H l = none → Q (V.ref l) (upd H l (HO.lst ys))) := hK ▸ call_list_of
theorem cr_sumK (hK : X.K = K) (hc : X.calm = true) : CallR X (.builtin "sum") (rSum K) := hK ▸ cr_sum hc
theorem pg_tupK {pos : Pos} {es : List Expr} {k : Nat} {t : TGs} {n : Nat} (hK : X.K = K) (hc : X.calm = true) (h : PGs X es t)
    (hn : (assignEach es X.env).length = n := by rfl) (hst : (assignEach es X.env).findIdx? (·.1) = none := by rfl) : PG X (.Tuple es k pos) (gTup K n t) := hK ▸ pg_tup hc h hn hst
theorem pi_listK {tg l : Expr} {tl : TE} (hK : X.K = K) (h : PE X l tl) : PI X tg l (iList K tl) := hK ▸ pi_list h
theorem pi_tupK {tg l : Expr} {tl : TE} (hK : X.K = K) (h : PE X l tl) : PI X tg l (iTup K tl) := hK ▸ pi_tup h
theorem ix_tupK (hK : X.K = K) : IxR X (rIxT K) := hK ▸ ix_tup
theorem ix_lisK (hK : X.K = K) : IxR X (rIxL K) := hK ▸ ix_list
theorem sl_tupK (hK : X.K = K) : SlR X (rSlA K) := hK ▸ sl_tupA
theorem sl_lisK (hK : X.K = K) : SlR X (rSlL K) := hK ▸ sl_list
theorem pe_fldK {e : Expr} {ta : TE} {f : Str} {pos : Pos} (hK : X.K = K) (he : PE X e ta) (hb : attributeBase e f X.env (eval e X.env) = eval e X.env) : PE X (.Attribute e f pos) (tFld K ta f) := hK ▸ pe_fld he hb
/-- sum of a tuple of whole numbers -/
def rSumT (K : PySem.W.Frag) : List V → Hp → VK → Prop := fun vs H Q => ∃ (a : Addr) (ns : List Int), vs = [V.ref a] ∧ SqT K H a (ns.map V.int) ∧ Q (.int ns.sum) H
theorem cr_sumT (hc : X.calm = true) : CallR X (.builtin "sum") (rSumT X.K) := by
  intro pins s σ H vs us Q I r h
  obtain ⟨a, ns, rfl, hs, q⟩ := h
  obtain ⟨its, rv, ht, _⟩ := I.tuple hs
  rw [Vals.ref1 r]
  have hi := rv.ints
  obtain ⟨xs, hx⟩ := hi.allInts.items
  have hn : numsOf (intItems xs).toList = ns := by rw [← hx]; exact hi.numsOf
  rw [nums_intItems] at hn
  rw [hx] at ht
  refine PySem.W.ktm_sumG (I.ok.hd hc) ht fun h' tk t' hk => ?_
  rw [preSum_eq, List.take_of_length_le (by simp), hn]
  exact ⟨.int _, H, I.kept hk, ⟨_, rfl⟩, q⟩
theorem cr_sumTK (hK : X.K = K) (hc : X.calm = true) : CallR X (.builtin "sum") (rSumT K) := hK ▸ cr_sumT hc
theorem op_catTK (hK : X.K = K) : OpR X (binaryOp .Add) (rCatT K) := hK ▸ op_catT
end
/-- site k's name, right k's name -/
def nm (k : Nat) : Str := ("s" : Str) ++ ⟨#[97 + k]⟩
def rnm (k : Nat) : Str := ("r" : Str) ++ ⟨#[97 + k]⟩
def intsD (ns : List Int) : PyData := .tuple (ns.map PyData.int)
def natD (k : Nat) : PyData := .int (k : Int)
def optD : Option Int → PyData
  | none => .none
  | some i => .int i
def nxtD : Option Nat → PyData
  | none => .none
  | some k => .str (nm k)
def siteD (k : Nat) (s : Site) : PyData := .tuple [.str (nm k), nxtD s.nxt, natD s.tr, optD s.reach, .int s.room, .int s.held, intsD s.infl]
def basinD (B : Basin) : PyData := .tuple [natD B.M, .tuple ((List.range B.n).map fun k => siteD k (B.site k))]
def rightD (k : Nat) (r : Right) : PyData := .tuple [.str (rnm k), .str (nm r.site), intsD r.dem]
def rightsD (R : List Right) : PyData := .tuple ((List.range R.length).map fun k => rightD k (rt R k))
def cellD (c : Nat × Nat) : PyData := .tuple [natD c.1, natD c.2]
inductive Claim where
  | right (r m : Nat)
  | room (s : Nat)
def claimL (B : Basin) (R : List Right) : List Claim := parts R.length B.M B.n Claim.right Claim.room
def claimD : Claim → PyData
  | .right r m => .tuple [.str "right", natD r, natD m]
  | .room s => .tuple [.str "room", natD s]
def Claim.cell (B : Basin) (R : List Right) : Claim → Nat × Nat
  | .right r m => ((rt R r).site, m)
  | .room s => (s, B.M - 1)
def Claim.size (B : Basin) (R : List Right) : Claim → Int
  | .right r m => (rt R r).dem.getD m 0
  | .room s => (B.site s).room
def Claim.Ok (B : Basin) (R : List Right) : Claim → Prop
  | .right r m => r < R.length ∧ m < B.M
  | .room s => s < B.n
def optCellD : Option (Nat × Nat) → PyData
  | none => .none
  | some c => cellD c
def rowsD (a p : Nat) (g : Nat → Nat → Int) : PyData := .tuple ((List.range a).map fun r => .tuple ((List.range p).map fun m => .int (g r m)))
def planD (B : Basin) (R : List Right) (d rel sto : Nat → Nat → Int) : PyData := .tuple [rowsD R.length B.M d, rowsD B.n B.M rel, rowsD B.n B.M sto]
/-- sizes of all that the law draws -/
structure Bas (B : Basin) : Prop where
  ok : B.Ok
  n : B.n ≤ 4
  M0 : 0 < B.M
  M : B.M ≤ 4
structure Rts (B : Basin) (R : List Right) : Prop where
  ok : RightsOk B R
  len : R.length ≤ 4
section
variable {K : PySem.W.Frag}
theorem rd_add {i j : Int} : RD (rI0 fun i j => V.int (i + j)) (.int i) (.int j) (.int (i + j)) := rd_I0 fun _ => rfl
theorem rd_sub {i j : Int} : RD (rI0 fun i j => V.int (i - j)) (.int i) (.int j) (.int (i - j)) := rd_I0 fun _ => rfl
theorem rd_lt {i j : Int} : RD (rI0 fun i j => V.bl (decide (i < j))) (.int i) (.int j) (.bool (decide (i < j))) := rd_I0 fun _ => rfl
theorem rd_le {i j : Int} : RD (rI0 fun i j => V.bl (decide (i ≤ j))) (.int i) (.int j) (.bool (decide (i ≤ j))) := rd_I0 fun _ => rfl
theorem rd_gt {i j : Int} : RD (rI0 fun i j => V.bl (decide (j < i))) (.int i) (.int j) (.bool (decide (j < i))) := rd_I0 fun _ => rfl
theorem rd_ge {i j : Int} : RD (rI0 fun i j => V.bl (decide (j ≤ i))) (.int i) (.int j) (.bool (decide (j ≤ i))) := rd_I0 fun _ => rfl
theorem rd_mul {i j : Int} (h : CMul i j) : RD (rI CMul fun i j => V.int (i * j)) (.int i) (.int j) (.int (i * j)) := rd_I h fun _ => rfl
theorem rd_mod {i j : Int} (h : 0 < j) : RD (rI (fun x j => 0 < j) fun i j => V.int (i % j)) (.int i) (.int j) (.int (i % j)) := rd_I h fun _ => rfl
theorem rd_fdiv {i j : Int} (h : CDiv i j) : RD (rI CDiv fun i j => V.int (i / j)) (.int i) (.int j) (.int (i / j)) := rd_I h fun _ => rfl
theorem rd_pow {i j : Int} (h : CPow i j) : RD (rI CPow fun i j => V.int (i ^ Int.toNat j)) (.int i) (.int j) (.int (i ^ j.toNat)) := rd_I h fun _ => rfl
theorem ru_neg {i : Int} : RUd (rU fun i => V.int (-i)) (.int i) (.int (-i)) := fun H0 H x w hx Q q => ⟨i, hx, q _ H0 H (.refl w) rfl⟩
end
theorem at_nat {α : Type} {xs : List α} {k : Nat} {x : α} (h : xs[k]? = some x) : atI xs (k : Int) = some x := by
  have hl := (List.getElem?_eq_some_iff.mp h).1
  unfold atI
  rw [Evl.ixN_nat hl]
  exact h
theorem at_rng {α : Type} {n k : Nat} {f : Nat → α} (h : k < n) : atI ((List.range n).map f) (k : Int) = some (f k) := at_nat (by rw [List.getElem?_map, List.getElem?_range h]; rfl)
theorem at_map {α β : Type} {xs : List α} {k : Nat} {f : α → β} {x : α} (h : xs[k]? = some x) : atI (xs.map f) (k : Int) = some (f x) := at_nat (by rw [List.getElem?_map, h]; rfl)
theorem at_ints {ns : List Int} {k : Nat} (h : k < ns.length) : atI (ns.map PyData.int) (k : Int) = some (.int (ns.getD k 0)) := at_map (by rw [List.getElem?_eq_getElem h, List.getD_eq_getElem?_getD, List.getElem?_eq_getElem h]; rfl)
theorem parts_map {α β : Type} {a p n : Nat} {g : Nat → Nat → α} {l : Nat → α} (h : α → β) : (parts a p n g l).map h = parts a p n (fun r m => h (g r m)) fun s => h (l s) := by
  unfold parts
  rw [List.map_append, List.map_flatMap, List.map_map]
  congr 1
  congr 1
  funext r
  rw [List.map_map]
  rfl
theorem claims_eq {B : Basin} {R : List Right} : claims B R = (claimL B R).map fun c => (Node.cell (c.cell B R).1 (c.cell B R).2, c.size B R) := by
  unfold claims claimL
  rw [parts_map]
  rfl
theorem claim_ok {B : Basin} {R : List Right} {c : Claim} (h : c ∈ claimL B R) : c.Ok B R := by
  unfold claimL parts at h
  rcases List.mem_append.mp h with h | h
  · obtain ⟨r, hr, h⟩ := List.mem_flatMap.mp h
    obtain ⟨m, hm, rfl⟩ := List.mem_map.mp h
    exact ⟨List.mem_range.mp hr, List.mem_range.mp hm⟩
  · obtain ⟨s, hs, rfl⟩ := List.mem_map.mp h
    exact List.mem_range.mp hs
theorem flatr_len (a b : Nat) : ((List.range a).flatMap fun _ => List.range b).length = a * b := by
  have := flat_len b (fun _ m => m) a
  simpa using this
theorem cells_map (B : Basin) : B.cells.map cellD = (List.range B.M).flatMap fun m => (List.range B.n).map fun s => cellD (s, m) := by
  unfold Basin.cells
  rw [List.map_flatMap]
  congr 1
  funext m
  rw [List.map_map]
  rfl
theorem cells_len (B : Basin) : B.cells.length = B.M * B.n := by
  unfold Basin.cells
  rw [flat_len B.n (fun m s => (s, m)) B.M]
section
variable {B0 B : Hp} {ρ : Rho} {te : TE} {K : PySem.W.Frag}
theorem ed_tupT {ds : List PyData} {t : TA} (h : EdA B0 B t ρ ds) (hl : ds.length ≤ 100000) : Ed B0 B (tTup t) ρ (.tuple ds) := ed_tup h hl
theorem ed_lstT {ds : List PyData} {t : TA} (h : EdA B0 B t ρ ds) (hl : ds.length ≤ 100000) : Ed B0 B (tLst t) ρ (.list ds) := ed_lst h hl
theorem ed_callT {ds : List PyData} {d : PyData} {f : List PyData → PyData → Prop} {n : Nat} {t : TA} {E : XK} (h : EdA B0 B t ρ ds) (hn : ds.length = n) (hf : f ds d) : Ed B0 B (tCall (spD n f) [] E t) ρ d := ed_call h hf hn
theorem et_andC {tt tu : TT} {a b : Bool} (h1 : EdT B0 B tt ρ a) (h2 : EdT B0 B tu ρ b) : EdT B0 B (tAnd tt tu) ρ (a && b) := et_and h1 fun _ => h2
theorem et_orC {tt tu : TT} {a b : Bool} (h1 : EdT B0 B tt ρ a) (h2 : EdT B0 B tu ρ b) : EdT B0 B (tOr tt tu) ρ (a || b) := et_or h1 fun _ => h2
theorem ed_lenR {n : Nat} {f : Nat → PyData} (h : Ed B0 B te ρ (.tuple ((List.range n).map f))) : Ed B0 B (tCB (fun xs H Q => ∃ x n, xs = [x] ∧ LenV K x H n ∧ Q (V.int ↑n) H) (tCons te tNil)) ρ (.int n) := by
  have := ed_lenT (K := K) h
  rw [List.length_map, List.length_range] at this
  exact this
theorem ed_lenM {α : Type} {L : List α} {f : α → PyData} (h : Ed B0 B te ρ (.tuple (L.map f))) : Ed B0 B (tCB (fun xs H Q => ∃ x n, xs = [x] ∧ LenV K x H n ∧ Q (V.int ↑n) H) (tCons te tNil)) ρ (.int L.length) := by
  have := ed_lenT (K := K) h
  rw [List.length_map] at this
  exact this
theorem ed_lenLM {α : Type} {L : List α} {f : α → PyData} (h : EdL B0 B te ρ (L.map f)) : Ed B0 B (tCB (fun xs H Q => ∃ x n, xs = [x] ∧ LenV K x H n ∧ Q (V.int ↑n) H) (tCons te tNil)) ρ (.int L.length) := by
  have := ed_lenL (K := K) h
  rw [List.length_map] at this
  exact this
theorem rd_catM {α : Type} {L M : List α} {f : α → PyData} (hl : L.length + M.length ≤ 100000) : RD rCat (.list (L.map f)) (.list (M.map f)) (.list ((L ++ M).map f)) := by
  rw [List.map_append]
  exact rd_cat (by rw [List.length_map, List.length_map]; exact hl)
end
theorem nm_inj {a b : Nat} (h : nm a = nm b) : a = b := by
  have e : (nm a).cps = (nm b).cps := by rw [h]
  have e1 : (#[115, 97 + a] : Array Nat) = #[115, 97 + b] := e
  have e2 : (97 + a : Nat) = 97 + b := by
    have := congrArg (fun x : Array Nat => x.getD 1 0) e1
    exact this
  omega
theorem shp_nm {k : Nat} (h : k < 100) : SeqAt.shaped (.str (nm k)) = true := by
  have : ∀ k : Fin 100, SeqAt.shaped (.str (nm k.val)) = true := by decide +kernel
  exact this ⟨k, h⟩
theorem rd_inT {K : PySem.W.Frag} {d : PyData} {ds : List PyData} (hd : SeqAt.shaped d = true) (he : SeqAt.shaped (.tuple ds) = true) : RD (rInTD K) d (.tuple ds) (.bool (ds.any fun z => PyData.eqv z d)) := rd_val fun H0 H x y w hx hy Q q => ⟨d, ds, (hx.mono w).dp, (hy.mono w).dp, hd, he, q _ rfl⟩
theorem eqv_str {x y : Str} : PyData.eqv (.str x) (.str y) = decide (x = y) := by
  rw [PyData.eqv]
  rfl
/-! sums, places, truth, kinds -/
theorem sum_eq {α : Type} (L : List α) (g : α → Int) : (L.map g).sum = sumL L g := by
  induction L with
  | nil => rfl
  | cons a L ih => rw [List.map_cons, List.sum_cons, ih]; rfl
theorem enum_at {n i : Nat} {p : Nat × Nat} (h : ((List.range (List.range n).length).zip (List.range n))[i]? = some p) : i < n ∧ p = (i, i) := by
  obtain ⟨j, j'⟩ := p
  obtain ⟨q1, q2⟩ := List.getElem?_zip_eq_some.mp h
  have hl : i < n := by simpa using (List.getElem?_eq_some_iff.mp q2).1
  rw [List.length_range, List.getElem?_range hl] at q1
  rw [List.getElem?_range hl] at q2
  obtain rfl : i = j := Option.some.inj q1
  obtain rfl : i = j' := Option.some.inj q2
  exact ⟨hl, rfl⟩
theorem enum_of {α : Type} {L : List α} {i : Nat} {p : Nat × α} (h : ((List.range L.length).zip L)[i]? = some p) : p.1 = i ∧ L[i]? = some p.2 := by
  obtain ⟨q1, q2⟩ := List.getElem?_zip_eq_some.mp h
  rw [List.getElem?_range (List.getElem?_eq_some_iff.mp q2).1] at q1
  exact ⟨(Option.some.inj q1).symm, q2⟩
theorem rng_at {n i x : Nat} (h : (List.range n)[i]? = some x) : x = i ∧ i < n := by
  have hl : i < n := by simpa using (List.getElem?_eq_some_iff.mp h).1
  rw [List.getElem?_range hl] at h
  exact ⟨(Option.some.inj h).symm, hl⟩
theorem sumR_succ (f : Nat → Int) (i : Nat) : sumL (List.range (i + 1)) f = sumL (List.range i) f + f i := by
  rw [List.range_succ, sumL_append]
  show _ + (f i + 0) = _
  rw [Int.add_zero]
theorem at_int {α : Type} {xs : List α} {i : Int} {k : Nat} {x : α} (e : i = (k : Int)) (h : xs[k]? = some x) : atI xs i = some x := by
  subst e
  exact at_nat h
theorem at_pred {n k : Nat} {f : Nat → PyData} (h : k < n) : atI ((List.range n).map f) (((k + 1 : Nat) : Int) - 1) = some (f k) := at_int (k := k) (by omega) (by rw [List.getElem?_map, List.getElem?_range h]; rfl)
theorem at_last {α : Type} {xs : List α} {k : Nat} {x : α} (e : xs.length = k + 1) (h : xs[k]? = some x) : atI xs (-1) = some x := by
  unfold atI ixN
  rw [if_neg (by decide), if_pos (by omega), e]
  show xs[((-1 : Int) + ((k + 1 : Nat) : Int)).toNat]? = _
  rw [show ((-1 : Int) + ((k + 1 : Nat) : Int)).toNat = k by omega]
  exact h
theorem eqv_int {i j : Int} : PyData.eqv (.int i) (.int j) = decide (i = j) := by
  rw [PyData.eqv]
  rfl
theorem eqv_nat {i j : Nat} : PyData.eqv (natD i) (natD j) = decide (i = j) := by
  show PyData.eqv (.int (i : Int)) (.int (j : Int)) = _
  rw [eqv_int]
  exact decide_eq_decide.mpr Int.ofNat_inj
section
variable {B0 B : Hp} {ρ : Rho} {te : TE} {K : PySem.W.Frag}
theorem ed_sumM {α : Type} {L : List α} {g : α → Int} (h : EdL B0 B te ρ (L.map fun x => .int (g x))) : Ed B0 B (tCB (rSum K) (tCons te tNil)) ρ (.int (sumL L g)) := by
  rw [← sum_eq]
  refine ed_sumL ?_
  rw [List.map_map]
  exact h
theorem ed_sumT {ns : List Int} (h : Ed B0 B te ρ (intsD ns)) : Ed B0 B (tCB (rSumT K) (tCons te tNil)) ρ (.int ns.sum) := fun H0 H σ E Q q =>
  h H0 H σ E _ fun v H1 H2 l hv => by
    obtain ⟨a, vs, rfl, h1, h2⟩ := hv
    exact ⟨a, ns, rfl, SqT.of (by rw [← h2.ints]; exact l.w a _ h1), q _ H1 H2 l rfl⟩
theorem et_truthL {ds : List PyData} (h : Ed B0 B te ρ (.list ds)) : EdT B0 B (fun σ H Q => te σ H fun x H' => ∃ k, TruV K x H' k ∧ Q k H') ρ (!ds.isEmpty) := fun H0 H σ E Q q =>
  h H0 H σ E _ fun v H1 H2 l hv => by
    obtain ⟨a, vs, rfl, h1, h2⟩ := hv
    refine ⟨!vs.isEmpty, .inl ⟨vs, SqL.of (l.w a _ h1), rfl⟩, ?_⟩
    have e : vs.isEmpty = ds.isEmpty := by
      have := h2.len
      cases vs <;> cases ds <;> simp_all
    rw [e]
    exact q H1 H2 l
theorem rc_isi {d : PyData} {b : Bool} {t n : String} (ht : ∀ H v, Dq H d v → TyX K H v (.type t)) (hk : PySem.W.kitOne K (.type t) (.type n) = some b) :
    ∀ {te}, Ed B0 B te ρ d → Ed B0 B (tCB (rIsi K) (tCons te (tCons (tC (.ty n)) tNil))) ρ (.bool b) := fun h H0 H σ E Q q =>
  h H0 H σ E _ fun v H1 H2 l hv => ⟨v, .ty n, .type t, .type n, b, rfl, .ty n, ht H2 v (hv.mono l.w), hk, q _ H1 H2 l rfl⟩
theorem ty_tup {ds : List PyData} {H : Hp} {v : V} (h : Dq H (.tuple ds) v) : TyX K H v (.type "tuple") := by
  obtain ⟨a, xs, rfl, h1, _⟩ := h
  exact .base (.tup h1)
theorem ty_int {i : Int} {H : Hp} {v : V} (h : Dq H (.int i) v) : TyX K H v (.type "int") := by
  cases (show v = V.int i from h)
  exact .base (.int i)
end
/-! records of closed months -/
structure FRec where
  xs : List Int
  r : Rec
  sp : List Int
def frecD (f : FRec) : PyData := .tuple [intsD f.xs, intsD f.r.d, intsD f.r.rel, intsD f.r.sto, intsD f.sp]
def recsOf (fs : List FRec) : List Rec := fs.map FRec.r
structure FsOk (B : Basin) (R : List Right) (fs : List FRec) : Prop where
  rel : ∀ f ∈ fs, f.r.rel.length = B.n
  sto : ∀ f ∈ fs, f.r.sto.length = B.n
  d : ∀ f ∈ fs, f.r.d.length = R.length
  len : fs.length ≤ B.M
/-! lists of cells -/
theorem eqv_cell {a b : Nat × Nat} : PyData.eqv (cellD a) (cellD b) = decide (a = b) := by
  obtain ⟨a1, a2⟩ := a
  obtain ⟨b1, b2⟩ := b
  show PyData.eqv (.tuple [natD a1, natD a2]) (.tuple [natD b1, natD b2]) = _
  simp only [PyData.eqv, PyData.eqvAll, natD, Bool.and_true]
  rw [Bool.eq_iff_iff]
  simp only [Bool.and_eq_true, beq_iff_eq, decide_eq_true_eq, Prod.mk.injEq]
  omega
theorem any_cell {row : List (Nat × Nat)} {c : Nat × Nat} : ((row.map cellD).any fun z => PyData.eqv z (cellD c)) = decide (c ∈ row) := by
  induction row with
  | nil => rfl
  | cons a l ih =>
    rw [List.map_cons, List.any_cons, ih, eqv_cell, Bool.eq_iff_iff]
    simp only [Bool.or_eq_true, decide_eq_true_eq, List.mem_cons]
    exact ⟨fun h => h.imp Eq.symm id, fun h => h.imp Eq.symm id⟩
theorem lay_cells (row : List (Nat × Nat)) : PyData.canLayAll0 (row.map cellD) = true ∧ PyData.depthAll (row.map cellD) ≤ 1 := by
  induction row with
  | nil => exact ⟨rfl, Nat.zero_le _⟩
  | cons a l ih =>
    obtain ⟨a1, a2⟩ := a
    have e1 : PyData.canLay0 (cellD (a1, a2)) = true := rfl
    have e2 : PyData.depth (cellD (a1, a2)) = 1 := rfl
    rw [List.map_cons]
    simp only [PyData.canLayAll0, PyData.depthAll, e1, e2, ih.1, Bool.and_self, true_and]
    omega
theorem shp_cells (row : List (Nat × Nat)) : SeqAt.shaped (.list (row.map cellD)) = true := by
  have h := lay_cells row
  unfold SeqAt.shaped
  rw [Bool.and_eq_true]
  exact ⟨by simpa only [PyData.canLay0] using h.1, decide_eq_true (by simp only [PyData.depth]; omega)⟩
theorem shp_cellsT (row : List (Nat × Nat)) : SeqAt.shaped (.tuple (row.map cellD)) = true := by
  have h := lay_cells row
  unfold SeqAt.shaped
  rw [Bool.and_eq_true]
  exact ⟨by simpa only [PyData.canLay0] using h.1, decide_eq_true (by simp only [PyData.depth]; omega)⟩
end HW
end
section
/-! HWF1: the defs of basins. -/
namespace HW
open PySem PySem.Spec PyProof.Rows L2
local macro_rules | `(tactic| walk_at "ed") => `(tactic| repeat' (first
  | exact ed_int | exact ed_str | exact ed_bl | exact ed_non | exact ea_nil | exact eo_none
  | exact ed_var rfl
  | with_reducible apply ea_cons
  | with_reducible apply ed_op
  | with_reducible apply ed_un
  | with_reducible apply ed_tupT
  | with_reducible apply ed_lstT
  | with_reducible apply et_test
  | with_reducible apply et_B
  | with_reducible apply et_andC
  | with_reducible apply et_orC
  | with_reducible apply et_not
  | with_reducible apply eo_some
  | with_reducible apply ed_callT
  | exact rd_add | exact rd_sub | exact rd_lt | exact rd_le | exact rd_gt | exact rd_ge | exact rd_isN | exact rd_notN | exact ru_neg
  | exact rd_ixT rfl
  | exact rd_ixT (at_rng (by assumption))
  | exact rd_ixT (at_ints (by assumption))
  | exact rd_ixT (at_pred (by assumption))
  | (show List.length _ = _; exact rfl)
  | (show List.length _ ≤ 100000; exact Nat.le_of_ble_eq_true rfl)
  | apply ed_tupT))
local macro_rules | `(tactic| walk_at "gd") => `(tactic| repeat' (first | exact gd_name (by decide) | exact gs_nil | with_reducible apply gs_cons | refine' gd_tup ?_ rfl))
variable {P : Program} {w : World} {K : PySem.W.Frag} {mg : Str → Option Value} {base : Heap} {CA CN CS : Addr}
abbrev s_site_number : Stmt := tp 10
theorem sc_site_number : FnScope ["basin", "name", "number", "site"] ["basin", "name"] (defScope s_site_number) := ⟨rfl, rfl, rfl, by decide +kernel, rfl, by decide +kernel, by decide +kernel⟩
def d_site_number (ds : List PyData) (d : PyData) : Prop := ∃ B k, Bas B ∧ k < B.n ∧ ds = [basinD B, .str (nm k)] ∧ d = natD k
theorem ok_site_number {f : Addr} {fd : FuncData} (F : Fun K "site_number" "site_number" s_site_number f fd) (T : Txt K mg CA CN CS)
     : FnOk P w K mg base CX0 1 f fd ["basin", "name"] (spD 2 d_site_number) := by
  refine F.ok sc_site_number (fun vs H Q E h => spD_len h) (fun cdv A outer s H vs Q E hr h => ?_)
  refine ⟨_, (pss_cons (ps_for PassesOwn.never rfl (pi_enumT rfl T.b_enumerate (pa_cons (pe_ix (ix_tupK (K := K) rfl) (pv 0) pe_int (fun _ _ => rfl)) pa_nil)) (pg_tupK (n := 2) (K := K) rfl rfl (pgs_cons (pg_name (i := 2) sc_site_number.nd rfl (Or.inl rfl)) (pgs_cons (pg_name (i := 3) sc_site_number.nd rfl (Or.inl rfl)) pgs_nil)))
  (pss_one (ps_if (pt_cmpR (op_eqK (K := K) rfl hr.units) (pe_ix (ix_tupK (K := K) rfl) (pv 3) (pe_gl T.NAME rfl) (fun _ _ => rfl)) (pv 1) (nomark _))
  (pss_one (ps_ret (pv 2)))
  pss_nil)))
 (pss_one (ps_ret pe_non))), ?_⟩
  refine sd_run h ?_
  rintro B0 B1 _ _ ⟨B, k, hB, hk, rfl, rfl⟩
  refine sd_seq (sd_for (ei_enumT (L := List.range B.n) (emb := fun k => siteD k (B.site k)) ?_) (fun i ρ' => ∃ x y, i ≤ k ∧ ρ' = [.dat (basinD B), .dat (.str (nm k)), x, y]) ⟨_, _, Nat.zero_le _, rfl⟩ ?_ ?_)
  · walk_at "ed"
  · rintro i ⟨j, j'⟩ ρ1 hx ⟨x, y, hi, rfl⟩
    obtain ⟨q1, q2⟩ := List.getElem?_zip_eq_some.mp hx
    have hl : i < B.n := by simpa using (List.getElem?_eq_some_iff.mp q2).1
    rw [List.length_range, List.getElem?_range hl] at q1
    rw [List.getElem?_range hl] at q2
    obtain rfl : i = j := Option.some.inj q1
    obtain rfl : i = j' := Option.some.inj q2
    refine ⟨_, by walk_at "gd", ?_⟩
    have hn := hB.n
    refine sd_if (et_is (b := decide (i = k)) (by walk_at "ed"; exact rd_eqD (shp_nm (by omega)) (shp_nm (by omega))) ?_) (fun e => sd_ret (by walk_at "ed") ?_) fun e => sd_next ?_
    · rw [eqv_str]
      exact decide_eq_decide.mpr ⟨nm_inj, fun e => by rw [e]⟩
    · rw [of_decide_eq_true e]
      rfl
    · have := of_decide_eq_false e
      exact ⟨_, _, by omega, rfl⟩
  · rintro ρ1 ⟨x, y, hi, rfl⟩
    simp at hi
    omega
abbrev s_claims : Stmt := tp 11
theorem sc_claims : FnScope ["basin", "rights", "months", "sites", "found", "number", "month"] ["basin", "rights"] (defScope s_claims) := ⟨rfl, rfl, rfl, by decide +kernel, rfl, by decide +kernel, by decide +kernel⟩
def d_claims (ds : List PyData) (d : PyData) : Prop := ∃ B R, Bas B ∧ Rts B R ∧ ds = [basinD B, rightsD R] ∧ d = .tuple ((claimL B R).map claimD)
theorem ok_claims {f : Addr} {fd : FuncData} (F : Fun K "claims" "claims" s_claims f fd) (T : Txt K mg CA CN CS)
     : FnOk P w K mg base CX0 1 f fd ["basin", "rights"] (spD 2 d_claims) := by
  refine F.ok sc_claims (fun vs H Q E h => spD_len h) (fun cdv A outer s H vs Q E hr h => ?_)
  refine ⟨_, (pss_cons (ps_asg (pv 0) (pg_tupK (n := 2) (K := K) rfl rfl (pgs_cons (pg_name (i := 2) sc_claims.nd rfl (Or.inr rfl)) (pgs_cons (pg_name (i := 3) sc_claims.nd rfl (Or.inl rfl)) pgs_nil))))
 (pss_cons (ps_setLc2 (i := 4) (own := [("number", 5), ("month", 6)]) (vs1 := [6]) rfl sc_claims.nd rfl rfl (sw_true rfl rfl rfl (by decide +kernel)) (pi_range1 rfl T.b_range (pa_cons (pe_callB (call_lenK (K := K) rfl) rfl T.b_len PySem.boot_len (pa_cons (pv 1) pa_nil)) pa_nil)) (blkOk_by (own := [("number", 5), ("month", 6)]) (N := ["basin", "rights", "months", "sites", "found", "number", "month"]) (sc := (defScope s_claims)) (by decide +kernel)) (by decide)
   (fun _ _ _ _ _ => (pg_name (i := 5) sc_claims.nd rfl (Or.inl rfl)))
   (fun _ _ _ _ _ => pts_nil)
   (fun _ _ _ _ _ => (pi_range1 rfl T.b_range (pa_cons (pv 2) pa_nil)))
   (fun _ _ _ _ _ => (pg_name (i := 6) sc_claims.nd rfl (Or.inl rfl)))
   (fun _ _ _ _ _ => pts_nil)
   (fun _ _ _ _ _ => (pe_tup (pa_cons pe_str (pa_cons (pv 5) (pa_cons (pv 6) pa_nil))))))
 (pss_one (ps_ret (pe_callTy (call_tupK (K := K) rfl) rfl T.b_tuple (by decide +kernel) (pa_cons (pe_op op_cat (pv 4) (pe_lc  (own := [("number", 5)]) rfl sc_claims.nd (pi_range1 rfl T.b_range (pa_cons (pe_callB (call_lenK (K := K) rfl) rfl T.b_len PySem.boot_len (pa_cons (pv 3) pa_nil)) pa_nil)) (blkOk_by (own := [("number", 5)]) (N := ["basin", "rights", "months", "sites", "found", "number", "month"]) (sc := (defScope s_claims)) (by decide +kernel))
   (fun _ _ _ _ _ => (pg_name (i := 5) sc_claims.nd rfl (Or.inl rfl)))
   (fun _ _ _ _ _ => pts_nil)
   (fun _ _ _ _ _ => (pe_tup (pa_cons pe_str (pa_cons (pv 5) pa_nil)))))) pa_nil)))))), ?_⟩
  refine sd_run h ?_
  rintro B0 B1 _ _ ⟨B, R, hB, hR, rfl, rfl⟩
  have hM := hB.M
  have hn := hB.n
  have hl := hR.len
  have e1 : (claimL B R).map claimD = ((List.range R.length).flatMap fun r => (List.range B.M).map fun m => claimD (.right r m)) ++ (List.range B.n).map fun s => claimD (.room s) := parts_map claimD
  have z1 : ((List.range R.length).flatMap fun r => List.range B.M).length ≤ 16 := by
    rw [flatr_len]
    exact Nat.mul_le_mul hl hM
  refine sd_seq (sd_asgG (by walk_at "ed") (by walk_at "gd") ?_)
  refine sd_seq (sd_asg (ed_lc2 (fun _ => List.range B.M) (fun m => .int (m : Nat)) (fun r m => claimD (.right r m)) (EdI.weak (ei_rng1 (ea_cons (ed_lenR (by walk_at "ed")) ea_nil) (by omega))) (by omega) ?_) ?_)
  · intro i x hx
    exact ⟨_, by walk_at "gd", rfl, ei_rng1 (by walk_at "ed") (by omega), fun j y hy => ⟨_, by walk_at "gd", by walk_at "ed"⟩⟩
  · rw [e1]
    refine sd_ret (ed_tupL (el_ed (ed_op (ed_var rfl) (ed_lc1 (fun s => claimD (.room s)) (EdI.weak (ei_rng1 (ea_cons (ed_lenR (by walk_at "ed")) ea_nil) (by omega))) (by simp; omega) ?_) (rd_cat ?_)))) rfl
    · intro i x hx
      exact ⟨_, by walk_at "gd", by walk_at "ed"⟩
    · have : ((List.range R.length).flatMap fun r => (List.range B.M).map fun m => claimD (.right r m)).length ≤ 16 := by
        rw [flat_len B.M (fun r m => claimD (.right r m)) R.length]
        exact Nat.mul_le_mul hl hM
      simp only [List.length_map, List.length_range]
      omega
abbrev s_claim_cell : Stmt := tp 12
theorem sc_claim_cell : FnScope ["basin", "rights", "claim"] ["basin", "rights", "claim"] (defScope s_claim_cell) := ⟨rfl, rfl, rfl, by decide +kernel, rfl, by decide +kernel, by decide +kernel⟩
def d_claim_cell (ds : List PyData) (d : PyData) : Prop := ∃ B R c, Bas B ∧ Rts B R ∧ c.Ok B R ∧ ds = [basinD B, rightsD R, claimD c] ∧ d = cellD (c.cell B R)
theorem ok_claim_cell {f : Addr} {fd : FuncData} (F : Fun K "claim_cell" "claim_cell" s_claim_cell f fd) (T : Txt K mg CA CN CS)
    (G_site_number : FnF P w K mg base 1 "site_number" ["basin", "name"] (spD 2 d_site_number)) : FnOk P w K mg base CX0 2 f fd ["basin", "rights", "claim"] (spD 3 d_claim_cell) := by
  refine F.ok sc_claim_cell (fun vs H Q E h => spD_len h) (fun cdv A outer s H vs Q E hr h => ?_)
  refine ⟨_, (pss_cons (ps_if (pt_cmpR (op_eqK (K := K) rfl hr.units) (pe_ix (ix_tupK (K := K) rfl) (pv 2) pe_int (fun _ _ => rfl)) pe_str (nomark _))
  (pss_one (ps_ret (pe_tup (pa_cons (pe_ix (ix_tupK (K := K) rfl) (pv 2) pe_int (fun _ _ => rfl)) (pa_cons (pe_op op_sub (pe_ix (ix_tupK (K := K) rfl) (pv 0) pe_int (fun _ _ => rfl)) pe_int) pa_nil)))))
  pss_nil)
 (pss_one (ps_ret (pe_tup (pa_cons (pe_fn G_site_number (hr.mono (by decide)) rfl (pa_cons (pv 0) (pa_cons (pe_ix (ix_tupK (K := K) rfl) (pe_ix (ix_tupK (K := K) rfl) (pv 1) (pe_ix (ix_tupK (K := K) rfl) (pv 2) pe_int (fun _ _ => rfl)) (fun _ _ => rfl)) pe_int (fun _ _ => rfl)) pa_nil))) (pa_cons (pe_ix (ix_tupK (K := K) rfl) (pv 2) pe_int (fun _ _ => rfl)) pa_nil)))))), ?_⟩
  refine sd_run h ?_
  rintro B0 B1 _ _ ⟨B, R, c, hB, hR, hc, rfl, rfl⟩
  cases c with
  | right r m =>
    have hr' : r < R.length := hc.1
    have hs := hR.ok.site _ (rt_mem hr')
    refine sd_seq (sd_if (b := false) (et_is (by walk_at "ed"; exact rd_eqD (by decide +kernel) (by decide +kernel)) ?_) (fun e => by cases e) fun _ => sd_next ?_)
    · decide +kernel
    refine sd_ret (d := .tuple [natD (rt R r).site, natD m]) ?_ rfl
    walk_at "ed"
    exact ⟨B, _, hB, hs, rfl, rfl⟩
  | room s =>
    refine sd_seq (sd_if (b := true) (et_is (by walk_at "ed"; exact rd_eqD (by decide +kernel) (by decide +kernel)) ?_) (fun _ => sd_ret (by walk_at "ed") ?_) fun e => by cases e)
    · decide +kernel
    · have := hB.M0
      show PyData.tuple [natD s, .int ((B.M : Int) - 1)] = PyData.tuple [natD s, natD (B.M - 1)]
      rw [show ((B.M : Int) - 1) = ((B.M - 1 : Nat) : Int) by omega]
      rfl
abbrev s_claim_size : Stmt := tp 13
theorem sc_claim_size : FnScope ["basin", "rights", "claim"] ["basin", "rights", "claim"] (defScope s_claim_size) := ⟨rfl, rfl, rfl, by decide +kernel, rfl, by decide +kernel, by decide +kernel⟩
def d_claim_size (ds : List PyData) (d : PyData) : Prop := ∃ B R c, Bas B ∧ Rts B R ∧ c.Ok B R ∧ ds = [basinD B, rightsD R, claimD c] ∧ d = .int (c.size B R)
theorem ok_claim_size {f : Addr} {fd : FuncData} (F : Fun K "claim_size" "claim_size" s_claim_size f fd) (T : Txt K mg CA CN CS)
     : FnOk P w K mg base CX0 1 f fd ["basin", "rights", "claim"] (spD 3 d_claim_size) := by
  refine F.ok sc_claim_size (fun vs H Q E h => spD_len h) (fun cdv A outer s H vs Q E hr h => ?_)
  refine ⟨_, (pss_cons (ps_if (pt_cmpR (op_eqK (K := K) rfl hr.units) (pe_ix (ix_tupK (K := K) rfl) (pv 2) pe_int (fun _ _ => rfl)) pe_str (nomark _))
  (pss_one (ps_ret (pe_ix (ix_tupK (K := K) rfl) (pe_ix (ix_tupK (K := K) rfl) (pe_ix (ix_tupK (K := K) rfl) (pv 0) pe_int (fun _ _ => rfl)) (pe_ix (ix_tupK (K := K) rfl) (pv 2) pe_int (fun _ _ => rfl)) (fun _ _ => rfl)) (pe_gl T.ROOM rfl) (fun _ _ => rfl))))
  pss_nil)
 (pss_one (ps_ret (pe_ix (ix_tupK (K := K) rfl) (pe_ix (ix_tupK (K := K) rfl) (pe_ix (ix_tupK (K := K) rfl) (pv 1) (pe_ix (ix_tupK (K := K) rfl) (pv 2) pe_int (fun _ _ => rfl)) (fun _ _ => rfl)) pe_int (fun _ _ => rfl)) (pe_ix (ix_tupK (K := K) rfl) (pv 2) pe_int (fun _ _ => rfl)) (fun _ _ => rfl))))), ?_⟩
  refine sd_run h ?_
  rintro B0 B1 _ _ ⟨B, R, c, hB, hR, hc, rfl, rfl⟩
  cases c with
  | right r m =>
    have hr' : r < R.length := hc.1
    have hm : m < (rt R r).dem.length := by rw [hR.ok.len _ (rt_mem hr')]; exact hc.2
    refine sd_seq (sd_if (b := false) (et_is (by walk_at "ed"; exact rd_eqD (by decide +kernel) (by decide +kernel)) ?_) (fun e => by cases e) fun _ => sd_next ?_)
    · decide +kernel
    refine sd_ret ?_ rfl
    walk_at "ed"
  | room s =>
    have hs : s < B.n := hc
    refine sd_seq (sd_if (b := true) (et_is (by walk_at "ed"; exact rd_eqD (by decide +kernel) (by decide +kernel)) ?_) (fun _ => sd_ret (by walk_at "ed") rfl) fun e => by cases e)
    decide +kernel
abbrev s_cells : Stmt := tp 14
theorem sc_cells : FnScope ["basin", "months", "sites", "month", "number"] ["basin"] (defScope s_cells) := ⟨rfl, rfl, rfl, by decide +kernel, rfl, by decide +kernel, by decide +kernel⟩
def d_cells (ds : List PyData) (d : PyData) : Prop := ∃ B, Bas B ∧ ds = [basinD B] ∧ d = .list (B.cells.map cellD)
theorem ok_cells {f : Addr} {fd : FuncData} (F : Fun K "cells" "cells" s_cells f fd) (T : Txt K mg CA CN CS)
     : FnOk P w K mg base CX0 1 f fd ["basin"] (spD 1 d_cells) := by
  refine F.ok sc_cells (fun vs H Q E h => spD_len h) (fun cdv A outer s H vs Q E hr h => ?_)
  refine ⟨_, (pss_cons (ps_asg (pv 0) (pg_tupK (n := 2) (K := K) rfl rfl (pgs_cons (pg_name (i := 1) sc_cells.nd rfl (Or.inl rfl)) (pgs_cons (pg_name (i := 2) sc_cells.nd rfl (Or.inr rfl)) pgs_nil))))
 (pss_one (ps_ret (pe_lc2  (own := [("month", 3), ("number", 4)]) (vs1 := [4]) rfl sc_cells.nd (pi_range1 rfl T.b_range (pa_cons (pv 1) pa_nil)) (blkOk_by (own := [("month", 3), ("number", 4)]) (N := ["basin", "months", "sites", "month", "number"]) (sc := (defScope s_cells)) (by decide +kernel)) (by decide)
   (fun _ _ _ _ _ => (pg_name (i := 3) sc_cells.nd rfl (Or.inl rfl)))
   (fun _ _ _ _ _ => pts_nil)
   (fun _ _ _ _ _ => (pi_range1 rfl T.b_range (pa_cons (pe_callB (call_lenK (K := K) rfl) rfl T.b_len PySem.boot_len (pa_cons (pv 2) pa_nil)) pa_nil)))
   (fun _ _ _ _ _ => (pg_name (i := 4) sc_cells.nd rfl (Or.inl rfl)))
   (fun _ _ _ _ _ => pts_nil)
   (fun _ _ _ _ _ => (pe_tup (pa_cons (pv 4) (pa_cons (pv 3) pa_nil)))))))), ?_⟩
  refine sd_run h ?_
  rintro B0 B1 _ _ ⟨B, hB, rfl, rfl⟩
  have hM := hB.M
  have hn := hB.n
  have z1 : ((List.range B.M).flatMap fun r => List.range B.n).length ≤ 16 := by
    rw [flatr_len]
    exact Nat.mul_le_mul hM hn
  refine sd_seq (sd_asgG (by walk_at "ed") (by walk_at "gd") ?_)
  rw [cells_map]
  refine sd_ret (ed_lc2 (fun _ => List.range B.n) (fun m => .int (m : Nat)) (fun m s => cellD (s, m)) (EdI.weak (ei_rng1 (by walk_at "ed") (by omega))) (by omega) ?_) rfl
  intro i x hx
  exact ⟨_, by walk_at "gd", rfl, ei_rng1 (ea_cons (ed_lenR (by walk_at "ed")) ea_nil) (by omega), fun j y hy => ⟨_, by walk_at "gd", by walk_at "ed"⟩⟩
abbrev s_cell_supply : Stmt := tp 15
theorem sc_cell_supply : FnScope ["basin", "cell", "number", "month", "site"] ["basin", "cell"] (defScope s_cell_supply) := ⟨rfl, rfl, rfl, by decide +kernel, rfl, by decide +kernel, by decide +kernel⟩
def d_cell_supply (ds : List PyData) (d : PyData) : Prop := ∃ B s m, Bas B ∧ s < B.n ∧ m < B.M ∧ ds = [basinD B, cellD (s, m)] ∧ d = .int (B.supply s m)
theorem ok_cell_supply {f : Addr} {fd : FuncData} (F : Fun K "cell_supply" "cell_supply" s_cell_supply f fd) (T : Txt K mg CA CN CS)
     : FnOk P w K mg base CX0 1 f fd ["basin", "cell"] (spD 2 d_cell_supply) := by
  refine F.ok sc_cell_supply (fun vs H Q E h => spD_len h) (fun cdv A outer s H vs Q E hr h => ?_)
  refine ⟨_, (pss_cons (ps_asg (pv 1) (pg_tupK (n := 2) (K := K) rfl rfl (pgs_cons (pg_name (i := 2) sc_cell_supply.nd rfl (Or.inl rfl)) (pgs_cons (pg_name (i := 3) sc_cell_supply.nd rfl (Or.inl rfl)) pgs_nil))))
 (pss_cons (ps_set (i := 4) sc_cell_supply.nd rfl (Or.inl rfl) (pe_ix (ix_tupK (K := K) rfl) (pe_ix (ix_tupK (K := K) rfl) (pv 0) pe_int (fun _ _ => rfl)) (pv 2) (fun _ _ => rfl)))
 (pss_one (ps_ret (pe_op op_add (pe_ix (ix_tupK (K := K) rfl) (pe_ix (ix_tupK (K := K) rfl) (pv 4) (pe_gl T.INFLOWS rfl) (fun _ _ => rfl)) (pv 3) (fun _ _ => rfl)) (pe_ifExp (pt_cmpR (op_eqK (K := K) rfl hr.units) (pv 3) pe_int (nomark _)) (pe_ix (ix_tupK (K := K) rfl) (pv 4) (pe_gl T.HELD rfl) (fun _ _ => rfl)) pe_int)))))), ?_⟩
  refine sd_run h ?_
  rintro B0 B1 _ _ ⟨B, s, m, hB, hs, hm, rfl, rfl⟩
  have hi : m < (B.site s).infl.length := by rw [hB.ok.infl s hs]; exact hm
  refine sd_seq (sd_asgG (by walk_at "ed") (by walk_at "gd") ?_)
  refine sd_seq (sd_asg (by walk_at "ed") ?_)
  refine sd_ret (ed_op (e := .int (if m = 0 then (B.site s).held else 0)) (by walk_at "ed") (ed_if (b := decide (m = 0)) (et_is (by walk_at "ed"; exact rd_eqD rfl rfl) ?_) (fun e => ed_is (by walk_at "ed") ?_) fun e => ed_is ed_int ?_) rd_add) rfl
  · show PyData.eqv (.int (m : Int)) (.int 0) = _
    rw [PyData.eqv]
    by_cases h : m = 0
    · subst h
      rfl
    · rw [decide_eq_false h, beq_eq_false_iff_ne]
      omega
  · rw [if_pos (of_decide_eq_true e)]
  · rw [if_neg (of_decide_eq_false e)]
abbrev s_let_to : Stmt := tp 16
theorem sc_let_to : FnScope ["basin", "cell", "number", "month", "site"] ["basin", "cell"] (defScope s_let_to) := ⟨rfl, rfl, rfl, by decide +kernel, rfl, by decide +kernel, by decide +kernel⟩
def d_let_to (ds : List PyData) (d : PyData) : Prop := ∃ B s m, Bas B ∧ s < B.n ∧ m < B.M ∧ ds = [basinD B, cellD (s, m)] ∧ d = optCellD (B.letTo s m)
theorem ok_let_to {f : Addr} {fd : FuncData} (F : Fun K "let_to" "let_to" s_let_to f fd) (T : Txt K mg CA CN CS)
    (G_site_number : FnF P w K mg base 1 "site_number" ["basin", "name"] (spD 2 d_site_number)) : FnOk P w K mg base CX0 2 f fd ["basin", "cell"] (spD 2 d_let_to) := by
  refine F.ok sc_let_to (fun vs H Q E h => spD_len h) (fun cdv A outer s H vs Q E hr h => ?_)
  refine ⟨_, (pss_cons (ps_asg (pv 1) (pg_tupK (n := 2) (K := K) rfl rfl (pgs_cons (pg_name (i := 2) sc_let_to.nd rfl (Or.inl rfl)) (pgs_cons (pg_name (i := 3) sc_let_to.nd rfl (Or.inl rfl)) pgs_nil))))
 (pss_cons (ps_set (i := 4) sc_let_to.nd rfl (Or.inl rfl) (pe_ix (ix_tupK (K := K) rfl) (pe_ix (ix_tupK (K := K) rfl) (pv 0) pe_int (fun _ _ => rfl)) (pv 2) (fun _ _ => rfl)))
 (pss_cons (ps_if (PW.pt (pw_or (pt_cmpR op_isN (pe_ix (ix_tupK (K := K) rfl) (pv 4) (pe_gl T.NEXT rfl) (fun _ _ => rfl)) pe_non (nomark _)) (pw_or1 (pt_cmpR op_ge (pe_op op_add (pv 3) (pe_ix (ix_tupK (K := K) rfl) (pv 4) (pe_gl T.TRAVEL rfl) (fun _ _ => rfl))) (pe_ix (ix_tupK (K := K) rfl) (pv 0) pe_int (fun _ _ => rfl)) (nomark _)))))
  (pss_one (ps_ret pe_non))
  pss_nil)
 (pss_one (ps_ret (pe_tup (pa_cons (pe_fn G_site_number (hr.mono (by decide)) rfl (pa_cons (pv 0) (pa_cons (pe_ix (ix_tupK (K := K) rfl) (pv 4) (pe_gl T.NEXT rfl) (fun _ _ => rfl)) pa_nil))) (pa_cons (pe_op op_add (pv 3) (pe_ix (ix_tupK (K := K) rfl) (pv 4) (pe_gl T.TRAVEL rfl) (fun _ _ => rfl))) pa_nil)))))))), ?_⟩
  refine sd_run h ?_
  rintro B0 B1 _ _ ⟨B, s, m, hB, hs, hm, rfl, rfl⟩
  refine sd_seq (sd_asgG (by walk_at "ed") (by walk_at "gd") ?_)
  refine sd_seq (sd_asg (by walk_at "ed") ?_)
  refine sd_seq (sd_if (by walk_at "ed") (fun e => sd_ret ed_non ?_) fun e => sd_next (sd_ret ?_ rfl))
  · cases hx : (B.site s).nxt with
    | none => 
      unfold Basin.letTo
      rw [hx]
      rfl
    | some t =>
      rw [hx] at e
      have e : decide ((B.M : Int) ≤ (m : Int) + (B.site s).tr) = true := e
      have := of_decide_eq_true e
      unfold Basin.letTo
      rw [hx]
      show _ = optCellD (if m + (B.site s).tr < B.M then _ else _)
      rw [if_neg (by omega)]
      rfl
  · cases hx : (B.site s).nxt with
    | none =>
      rw [hx] at e
      cases e
    | some t =>
      rw [hx] at e
      have e : decide ((B.M : Int) ≤ (m : Int) + (B.site s).tr) = false := e
      have := of_decide_eq_false e
      have ht := hB.ok.nxt s t hs hx
      have el : B.letTo s m = some (t, m + (B.site s).tr) := by
        unfold Basin.letTo
        rw [hx]
        show (if m + (B.site s).tr < B.M then _ else _) = _
        rw [if_pos (by omega)]
      rw [el]
      refine ed_is (d := .tuple [natD t, .int ((m : Int) + ((B.site s).tr : Nat))]) ?_ (by show PyData.tuple [natD t, _] = PyData.tuple [natD t, natD _]; rw [natD, natD, ← Int.natCast_add])
      walk_at "ed"
      exact ⟨B, t, hB, ht.2, by rw [hx]; rfl, rfl⟩
abbrev s_let_from : Stmt := tp 17
theorem sc_let_from : FnScope ["basin", "cell", "other"] ["basin", "cell"] (defScope s_let_from) := ⟨rfl, rfl, rfl, by decide +kernel, rfl, by decide +kernel, by decide +kernel⟩
def d_let_from (ds : List PyData) (d : PyData) : Prop := ∃ B s m, Bas B ∧ s < B.n ∧ m < B.M ∧ ds = [basinD B, cellD (s, m)] ∧ d = .list ((B.cells.filter fun c => decide (B.letTo c.1 c.2 = some (s, m))).map cellD)
theorem ok_let_from {f : Addr} {fd : FuncData} (F : Fun K "let_from" "let_from" s_let_from f fd) (T : Txt K mg CA CN CS)
    (G_cells : FnF P w K mg base 1 "cells" ["basin"] (spD 1 d_cells))
    (G_let_to : FnF P w K mg base 2 "let_to" ["basin", "cell"] (spD 2 d_let_to)) : FnOk P w K mg base CX0 3 f fd ["basin", "cell"] (spD 2 d_let_from) := by
  refine F.ok sc_let_from (fun vs H Q E h => spD_len h) (fun cdv A outer s H vs Q E hr h => ?_)
  refine ⟨_, (pss_one (ps_ret (pe_lc  (own := [("other", 2)]) rfl sc_let_from.nd (pi_listK (K := K) rfl (pe_fn G_cells (hr.mono (by decide)) rfl (pa_cons (pv 0) pa_nil))) (blkOk_by (own := [("other", 2)]) (N := ["basin", "cell", "other"]) (sc := (defScope s_let_from)) (by decide +kernel))
   (fun _ _ _ _ _ => (pg_name (i := 2) sc_let_from.nd rfl (Or.inl rfl)))
   (fun _ _ _ _ _ => (pts_one (pt_cmpR (op_eqK (K := K) rfl hr.units) (pe_fn G_let_to (hr.mono (by decide)) rfl (pa_cons (pv 0) (pa_cons (pv 2) pa_nil))) (pv 1) (nomark _))))
   (fun _ _ _ _ _ => (pv 2))))), ?_⟩
  refine sd_run h ?_
  rintro B0 B1 _ _ ⟨B, s, m, hB, hs, hm, rfl, rfl⟩
  have z1 : B.cells.length ≤ 16 := by rw [cells_len]; exact Nat.mul_le_mul hB.M hB.n
  refine sd_ret (ed_lcI (L := B.cells) (emb := cellD) (fun c => decide (B.letTo c.1 c.2 = some (s, m))) cellD (EdI.weak (ei_list ?_)) (by omega) ?_) rfl
  · walk_at "ed"
    exact ⟨B, hB, rfl, rfl⟩
  · rintro i ⟨s', m'⟩ hx
    obtain ⟨h1, h2⟩ := mem_cells.mp (List.mem_of_getElem? hx)
    refine ⟨_, by walk_at "gd", et_is (by walk_at "ed"; exact ⟨B, s', m', hB, h1, h2, rfl, rfl⟩; exact rd_eqD (by cases B.letTo s' m' <;> rfl) rfl) ?_, fun _ => by walk_at "ed"⟩
    · cases B.letTo s' m' with
      | none => rfl
      | some c =>
        obtain ⟨a, b⟩ := c
        show PyData.eqv (cellD (a, b)) (cellD (s, m)) = _
        show PyData.eqv (.tuple [natD a, natD b]) (.tuple [natD s, natD m]) = _
        simp only [PyData.eqv, PyData.eqvAll, natD, Option.some.injEq, Prod.mk.injEq, Bool.and_true]
        rw [Bool.eq_iff_iff]
        simp only [Bool.and_eq_true, beq_iff_eq, decide_eq_true_eq]
        omega
end HW
end
section
/-! HWF2: the defs of plans. -/
namespace HW
open PySem PySem.Spec PyProof.Rows L2
local macro_rules | `(tactic| walk_at "ed") => `(tactic| repeat' (first
  | exact ed_int | exact ed_str | exact ed_bl | exact ed_non | exact ea_nil | exact eo_none
  | exact ed_var rfl
  | with_reducible apply ea_cons
  | with_reducible apply ed_op
  | with_reducible apply ed_un
  | with_reducible apply ed_tupT
  | with_reducible apply ed_lstT
  | with_reducible apply et_test
  | with_reducible apply et_B
  | with_reducible apply et_andC
  | with_reducible apply et_orC
  | with_reducible apply et_not
  | with_reducible apply eo_some
  | with_reducible apply ed_callT
  | exact rd_add | exact rd_sub | exact rd_lt | exact rd_le | exact rd_gt | exact rd_ge | exact rd_isN | exact rd_notN | exact ru_neg
  | exact rd_ixT rfl
  | exact rd_ixT (at_rng (by assumption))
  | exact rd_ixT (at_ints (by assumption))
  | exact rd_ixT (at_pred (by assumption))
  | (show List.length _ = _; exact rfl)
  | (show List.length _ ≤ 100000; exact Nat.le_of_ble_eq_true rfl)
  | apply ed_tupT))
local macro_rules | `(tactic| walk_at "gd") => `(tactic| repeat' (first | exact gd_name (by decide) | exact gs_nil | with_reducible apply gs_cons | refine' gd_tup ?_ rfl))
variable {P : Program} {w : World} {K : PySem.W.Frag} {mg : Str → Option Value} {base : Heap} {CA CN CS : Addr}
abbrev s_rows_of : Stmt := tp 33
theorem sc_rows_of : FnScope ["basin", "amounts", "months", "sites", "number", "month"] ["basin", "amounts"] (defScope s_rows_of) := ⟨rfl, rfl, rfl, by decide +kernel, rfl, by decide +kernel, by decide +kernel⟩
def spRows : Sp := fun vs H Q _ => ∃ H0 B f vb vd, Ex H0 H ∧ Bas B ∧ Dq H0 (basinD B) vb ∧ DctOk H0 f vd ∧ vs = [vb, vd] ∧ ∀ v H0' H', Le H0 H H0' H' → Dq H0' (rowsD B.n B.M fun s m => (f (s, m)).getD 0) v → Q v H'
theorem ok_rows_of {f : Addr} {fd : FuncData} (F : Fun K "rows_of" "rows_of" s_rows_of f fd) (T : Txt K mg CA CN CS)
     : FnOk P w K mg base CX0 1 f fd ["basin", "amounts"] spRows := by
  refine F.ok sc_rows_of (fun vs H Q E h => ?_) (fun cdv A outer s H vs Q E hr h => ?_)
  · obtain ⟨_, _, _, _, _, _, _, _, _, rfl, _⟩ := h; rfl
  refine ⟨_, (pss_cons (ps_asg (pv 0) (pg_tupK (n := 2) (K := K) rfl rfl (pgs_cons (pg_name (i := 2) sc_rows_of.nd rfl (Or.inr rfl)) (pgs_cons (pg_name (i := 3) sc_rows_of.nd rfl (Or.inl rfl)) pgs_nil))))
 (pss_one (ps_ret (pe_callTy (call_tupK (K := K) rfl) rfl T.b_tuple (by decide +kernel) (pa_cons (pe_lc  (own := [("number", 4)]) rfl sc_rows_of.nd (pi_range1 rfl T.b_range (pa_cons (pe_callB (call_lenK (K := K) rfl) rfl T.b_len PySem.boot_len (pa_cons (pv 3) pa_nil)) pa_nil)) (blkOk_by (own := [("number", 4)]) (N := ["basin", "amounts", "months", "sites", "number", "month"]) (sc := (defScope s_rows_of)) (by decide +kernel))
   (fun _ _ _ _ _ => (pg_name (i := 4) sc_rows_of.nd rfl (Or.inr rfl)))
   (fun _ _ _ _ _ => pts_nil)
   (fun _ _ _ _ _ => (pe_callTy (call_tupK (K := K) rfl) rfl T.b_tuple (by decide +kernel) (pa_cons (pe_lc  (own := [("month", 5)]) rfl sc_rows_of.nd (pi_range1 rfl T.b_range (pa_cons (pv 2) pa_nil)) (blkOk_by (own := [("month", 5)]) (N := ["basin", "amounts", "months", "sites", "number", "month"]) (sc := (relS _ (defScope s_rows_of))) (by decide +kernel))
   (fun _ _ _ _ _ => (pg_name (i := 5) sc_rows_of.nd rfl (Or.inl rfl)))
   (fun _ _ _ _ _ => pts_nil)
   (fun _ _ _ _ _ => (pe_dget2 (hu_of hr) (pv 1) (pe_tup (pa_cons (pv 4) (pa_cons (pv 5) pa_nil))) pe_int ⟨rfl, rfl, rfl, rfl⟩))) pa_nil)))) pa_nil))))), ?_⟩
  obtain ⟨H0, B, f, vb, vd, we, hB, hb, hd, rfl, q⟩ := h
  have hM := hB.M
  have hn := hB.n
  have E0 : Eok H0 H H0 H [some vb, some vd, none, none, none, none] [.dat (basinD B), .dct f, .any, .any, .any, .any] := ⟨.refl we, ⟨vb, rfl, hb⟩, ⟨vd, rfl, hd⟩, trivial, trivial, trivial, trivial, trivial⟩
  refine (?_ : Sd H0 H _ _ (fun _ => False) (fun e => e = rowsD B.n B.M fun s m => (f (s, m)).getD 0)) H0 H _ E0 _ (fun ρ' H1 H2 σ' e => e.elim) fun e v H1 H2 he l hz => q v H1 H2 l (by rw [← he]; exact hz)
  refine sd_seq (sd_asgG (by walk_at "ed") (by walk_at "gd") ?_)
  refine sd_ret (ed_tupL (el_ed (ed_lc1 (fun s => .tuple ((List.range B.M).map fun m => .int ((f (s, m)).getD 0))) (EdI.weak (ei_rng1 (ea_cons (ed_lenR (by walk_at "ed")) ea_nil) (by omega))) (by simp; omega) ?_))) rfl
  intro i s hs
  refine ⟨_, by walk_at "gd", ed_tupL (el_ed (ed_lc1 (fun m => .int ((f (s, m)).getD 0)) (EdI.weak (ei_rng1 (by walk_at "ed") (by omega))) (by simp; omega) ?_))⟩
  intro j m hm
  exact ⟨_, by walk_at "gd", ed_dget2 (c := (s, m)) rfl (by walk_at "ed")⟩
abbrev s_received : Stmt := tp 36
theorem sc_received : FnScope ["basin", "plan", "cell", "number", "month", "_", "releases", "storages", "found", "other", "when"] ["basin", "plan", "cell"] (defScope s_received) := ⟨rfl, rfl, rfl, by decide +kernel, rfl, by decide +kernel, by decide +kernel⟩
def d_received (ds : List PyData) (d : PyData) : Prop := ∃ B R dl rel sto s m, Bas B ∧ Rts B R ∧ s < B.n ∧ m < B.M ∧ ds = [basinD B, planD B R dl rel sto, cellD (s, m)] ∧ d = .int (B.recv rel sto s m)
theorem ok_received {f : Addr} {fd : FuncData} (F : Fun K "received" "received" s_received f fd) (T : Txt K mg CA CN CS)
    (G_cell_supply : FnF P w K mg base 1 "cell_supply" ["basin", "cell"] (spD 2 d_cell_supply))
    (G_let_from : FnF P w K mg base 3 "let_from" ["basin", "cell"] (spD 2 d_let_from)) : FnOk P w K mg base CX0 4 f fd ["basin", "plan", "cell"] (spD 3 d_received) := by
  refine F.ok sc_received (fun vs H Q E h => spD_len h) (fun cdv A outer s H vs Q E hr h => ?_)
  refine ⟨_, (pss_cons (ps_asg (pv 2) (pg_tupK (n := 2) (K := K) rfl rfl (pgs_cons (pg_name (i := 3) sc_received.nd rfl (Or.inl rfl)) (pgs_cons (pg_name (i := 4) sc_received.nd rfl (Or.inl rfl)) pgs_nil))))
 (pss_cons (ps_asg (pv 1) (pg_tupK (n := 3) (K := K) rfl rfl (pgs_cons (pg_name (i := 5) sc_received.nd rfl (Or.inl rfl)) (pgs_cons (pg_name (i := 6) sc_received.nd rfl (Or.inr rfl)) (pgs_cons (pg_name (i := 7) sc_received.nd rfl (Or.inl rfl)) pgs_nil)))))
 (pss_cons (ps_set (i := 8) sc_received.nd rfl (Or.inl rfl) (pe_fn G_cell_supply (hr.mono (by decide)) rfl (pa_cons (pv 0) (pa_cons (pv 2) pa_nil))))
 (pss_cons (ps_if (pt_cmpR op_gt (pv 4) pe_int (nomark _))
  (pss_one (ps_aug (i := 8) sc_received.nd rfl (Or.inl rfl) (pe_ix (ix_tupK (K := K) rfl) (pe_ix (ix_tupK (K := K) rfl) (pv 7) (pv 3) (fun _ _ => rfl)) (pe_op op_sub (pv 4) pe_int) (fun _ _ => rfl)) ip_add))
  pss_nil)
 (pss_one (ps_ret (pe_op op_add (pv 8) (pe_callB (cr_sumK (K := K) rfl rfl) rfl T.b_sum (by decide +kernel) (pa_cons (pe_lc  (own := [("other", 9), ("when", 10)]) rfl sc_received.nd (pi_listK (K := K) rfl (pe_fn G_let_from (hr.mono (by decide)) rfl (pa_cons (pv 0) (pa_cons (pv 2) pa_nil)))) (blkOk_by (own := [("other", 9), ("when", 10)]) (N := ["basin", "plan", "cell", "number", "month", "_", "releases", "storages", "found", "other", "when"]) (sc := (defScope s_received)) (by decide +kernel))
   (fun _ _ _ _ _ => (pg_tupK (n := 2) (K := K) rfl rfl (pgs_cons (pg_name (i := 9) sc_received.nd rfl (Or.inl rfl)) (pgs_cons (pg_name (i := 10) sc_received.nd rfl (Or.inl rfl)) pgs_nil))))
   (fun _ _ _ _ _ => pts_nil)
   (fun _ _ _ _ _ => (pe_ix (ix_tupK (K := K) rfl) (pe_ix (ix_tupK (K := K) rfl) (pv 6) (pv 9) (fun _ _ => rfl)) (pv 10) (fun _ _ => rfl)))) pa_nil))))))))), ?_⟩
  refine sd_run h ?_
  rintro B0 B1 _ _ ⟨B, R, dl, rel, sto, s, m, hB, hR, hs, hm, rfl, rfl⟩
  refine sd_seq (sd_asgG (by walk_at "ed") (by walk_at "gd") ?_)
  refine sd_seq (sd_asgG (by walk_at "ed") (by walk_at "gd") ?_)
  refine sd_seq (sd_asg (d := .int (B.supply s m)) (by walk_at "ed"; exact ⟨B, s, m, hB, hs, hm, rfl, rfl⟩) ?_)
  refine sd_seq (sd_mid (M := fun ρ1 => ρ1 = [.dat (basinD B), .dat (planD B R dl rel sto), .dat (cellD (s, m)), .dat (natD s), .dat (natD m), .dat (rowsD R.length B.M dl), .dat (rowsD B.n B.M rel), .dat (rowsD B.n B.M sto), .dat (.int (B.supply s m + if m = 0 then 0 else sto s (m - 1))), .any, .any]) ?_ ?_)
  · cases m with
    | zero => exact sd_if (b := false) (et_is (by walk_at "ed") (by rfl)) (fun e => by cases e) fun _ => sd_next (by rw [if_pos rfl, Int.add_zero]; rfl)
    | succ m =>
      have hm' : m < B.M := by omega
      refine sd_if (b := true) (et_is (by walk_at "ed") (decide_eq_true (by show (0 : Int) < ((m + 1 : Nat) : Int); omega))) (fun _ => sd_aug (f := fun i j => i + j) rfl (b := sto s m) (by walk_at "ed") ?_) (fun e => by cases e)
      rw [if_neg (by omega)]
      rfl
  · rintro ρ1 rfl
    refine sd_ret (ed_op (ed_var rfl) (ed_sumM (L := B.cells.filter fun c => decide (B.letTo c.1 c.2 = some (s, m))) (g := fun c => rel c.1 c.2) (el_ed (ed_lc1 (emb := cellD) (fun c => .int (rel c.1 c.2)) (EdI.weak (ei_list (by walk_at "ed"; exact ⟨B, s, m, hB, hs, hm, rfl, rfl⟩))) ?_ ?_))) rd_add) ?_
    · have h1 := List.length_filter_le (fun c : Nat × Nat => decide (B.letTo c.1 c.2 = some (s, m))) B.cells
      have h2 : B.cells.length ≤ 16 := by rw [cells_len]; exact Nat.mul_le_mul hB.M hB.n
      omega
    · rintro i ⟨a, b⟩ hx
      obtain ⟨h1, h2⟩ := mem_cells.mp (List.mem_filter.mp (List.mem_of_getElem? hx)).1
      exact ⟨_, by walk_at "gd", by walk_at "ed"⟩
    · rw [sumL_filter]
      have := sum_from (B := B) (s := s) hm rel
      simp only [decide_eq_true_eq]
      rw [this]
      rfl
abbrev s_spill : Stmt := tp 37
theorem sc_spill : FnScope ["basin", "rights", "plan", "cell", "number", "month", "deliveries", "releases", "storages", "found", "at", "right"] ["basin", "rights", "plan", "cell"] (defScope s_spill) := ⟨rfl, rfl, rfl, by decide +kernel, rfl, by decide +kernel, by decide +kernel⟩
def d_spill (ds : List PyData) (d : PyData) : Prop := ∃ B R dl rel sto s m, Bas B ∧ Rts B R ∧ s < B.n ∧ m < B.M ∧ ds = [basinD B, rightsD R, planD B R dl rel sto, cellD (s, m)] ∧ d = .int (B.recv rel sto s m - used R dl rel sto s m)
theorem ok_spill {f : Addr} {fd : FuncData} (F : Fun K "spill" "spill" s_spill f fd) (T : Txt K mg CA CN CS)
    (G_received : FnF P w K mg base 4 "received" ["basin", "plan", "cell"] (spD 3 d_received))
    (G_site_number : FnF P w K mg base 1 "site_number" ["basin", "name"] (spD 2 d_site_number)) : FnOk P w K mg base CX0 5 f fd ["basin", "rights", "plan", "cell"] (spD 4 d_spill) := by
  refine F.ok sc_spill (fun vs H Q E h => spD_len h) (fun cdv A outer s H vs Q E hr h => ?_)
  refine ⟨_, (pss_cons (ps_asg (pv 3) (pg_tupK (n := 2) (K := K) rfl rfl (pgs_cons (pg_name (i := 4) sc_spill.nd rfl (Or.inl rfl)) (pgs_cons (pg_name (i := 5) sc_spill.nd rfl (Or.inl rfl)) pgs_nil))))
 (pss_cons (ps_asg (pv 2) (pg_tupK (n := 3) (K := K) rfl rfl (pgs_cons (pg_name (i := 6) sc_spill.nd rfl (Or.inl rfl)) (pgs_cons (pg_name (i := 7) sc_spill.nd rfl (Or.inl rfl)) (pgs_cons (pg_name (i := 8) sc_spill.nd rfl (Or.inl rfl)) pgs_nil)))))
 (pss_cons (ps_set (i := 9) sc_spill.nd rfl (Or.inl rfl) (pe_op op_sub (pe_op op_sub (pe_fn G_received (hr.mono (by decide)) rfl (pa_cons (pv 0) (pa_cons (pv 2) (pa_cons (pv 3) pa_nil)))) (pe_ix (ix_tupK (K := K) rfl) (pe_ix (ix_tupK (K := K) rfl) (pv 7) (pv 4) (fun _ _ => rfl)) (pv 5) (fun _ _ => rfl))) (pe_ix (ix_tupK (K := K) rfl) (pe_ix (ix_tupK (K := K) rfl) (pv 8) (pv 4) (fun _ _ => rfl)) (pv 5) (fun _ _ => rfl))))
 (pss_cons (ps_for PassesOwn.never rfl (pi_enumT rfl T.b_enumerate (pa_cons (pv 1) pa_nil)) (pg_tupK (n := 2) (K := K) rfl rfl (pgs_cons (pg_name (i := 10) sc_spill.nd rfl (Or.inl rfl)) (pgs_cons (pg_name (i := 11) sc_spill.nd rfl (Or.inl rfl)) pgs_nil)))
  (pss_one (ps_if (pt_cmpR (op_eqK (K := K) rfl hr.units) (pe_fn G_site_number (hr.mono (by decide)) rfl (pa_cons (pv 0) (pa_cons (pe_ix (ix_tupK (K := K) rfl) (pv 11) pe_int (fun _ _ => rfl)) pa_nil))) (pv 4) (nomark _))
  (pss_one (ps_aug (i := 9) sc_spill.nd rfl (Or.inl rfl) (pe_ix (ix_tupK (K := K) rfl) (pe_ix (ix_tupK (K := K) rfl) (pv 6) (pv 10) (fun _ _ => rfl)) (pv 5) (fun _ _ => rfl)) ip_sub))
  pss_nil)))
 (pss_one (ps_ret (pv 9))))))), ?_⟩
  refine sd_run h ?_
  rintro B0 B1 _ _ ⟨B, R, dl, rel, sto, s, m, hB, hR, hs, hm, rfl, rfl⟩
  have hn := hB.n
  refine sd_seq (sd_asgG (by walk_at "ed") (by walk_at "gd") ?_)
  refine sd_seq (sd_asgG (by walk_at "ed") (by walk_at "gd") ?_)
  refine sd_seq (sd_asg (d := .int (B.recv rel sto s m - rel s m - sto s m)) (by walk_at "ed"; exact ⟨B, R, dl, rel, sto, s, m, hB, hR, hs, hm, rfl, rfl⟩; walk_at "ed") ?_)
  refine sd_seq (sd_for (ei_enumT (L := List.range R.length) (emb := fun k => rightD k (rt R k)) (by walk_at "ed")) (fun i ρ1 => ∃ x y, ρ1 = [.dat (basinD B), .dat (rightsD R), .dat (planD B R dl rel sto), .dat (cellD (s, m)), .dat (natD s), .dat (natD m), .dat (rowsD R.length B.M dl), .dat (rowsD B.n B.M rel), .dat (rowsD B.n B.M sto), .dat (.int (B.recv rel sto s m - rel s m - sto s m - sumL (List.range i) fun r => if (rt R r).site = s then dl r m else 0)), x, y]) ⟨.any, .any, by rw [List.range_zero, sumL_nil, Int.sub_zero]; rfl⟩ ?_ ?_)
  · rintro i p ρ1 hx ⟨x, y, rfl⟩
    obtain ⟨hr, rfl⟩ := enum_at (n := R.length) hx
    have hs' := hR.ok.site _ (rt_mem hr)
    refine ⟨_, by walk_at "gd", ?_⟩
    refine sd_if (b := decide ((rt R i).site = s)) (et_is (by walk_at "ed"; exact ⟨B, _, hB, hs', rfl, rfl⟩; exact rd_eqD rfl rfl) eqv_nat) (fun e => sd_aug (f := fun i j => i - j) rfl (b := dl i m) (by walk_at "ed") ⟨.dat (natD i), .dat (rightD i (rt R i)), ?_⟩) fun e => sd_next ⟨.dat (natD i), .dat (rightD i (rt R i)), ?_⟩
    · have e := of_decide_eq_true e
      rw [sumR_succ, if_pos e, ← Int.sub_sub]
      rfl
    · have e := of_decide_eq_false e
      rw [sumR_succ, if_neg e, Int.add_zero]
      rfl
  · rintro ρ1 ⟨x, y, rfl⟩
    refine sd_ret (ed_var rfl) ?_
    unfold used
    simp only [List.length_zip, List.length_range, Nat.min_self]
    congr 1
    omega
abbrev s_cell_fault : Stmt := tp 38
theorem sc_cell_fault : FnScope ["basin", "rights", "plan", "cell", "number", "month", "_", "releases", "storages", "site", "release"] ["basin", "rights", "plan", "cell"] (defScope s_cell_fault) := ⟨rfl, rfl, rfl, by decide +kernel, rfl, by decide +kernel, by decide +kernel⟩
def d_cell_fault (ds : List PyData) (d : PyData) : Prop := ∃ B R dl rel sto s m, Bas B ∧ Rts B R ∧ s < B.n ∧ m < B.M ∧ MonthOk B R dl rel sto m ∧ ds = [basinD B, rightsD R, planD B R dl rel sto, cellD (s, m)] ∧ d = .none
theorem ok_cell_fault {f : Addr} {fd : FuncData} (F : Fun K "cell_fault" "cell_fault" s_cell_fault f fd) (T : Txt K mg CA CN CS)
    (G_spill : FnF P w K mg base 5 "spill" ["basin", "rights", "plan", "cell"] (spD 4 d_spill)) : FnOk P w K mg base CX0 6 f fd ["basin", "rights", "plan", "cell"] (spD 4 d_cell_fault) := by
  refine F.ok sc_cell_fault (fun vs H Q E h => spD_len h) (fun cdv A outer s H vs Q E hr h => ?_)
  refine ⟨_, (pss_cons (ps_asg (pv 3) (pg_tupK (n := 2) (K := K) rfl rfl (pgs_cons (pg_name (i := 4) sc_cell_fault.nd rfl (Or.inl rfl)) (pgs_cons (pg_name (i := 5) sc_cell_fault.nd rfl (Or.inl rfl)) pgs_nil))))
 (pss_cons (ps_asg (pv 2) (pg_tupK (n := 3) (K := K) rfl rfl (pgs_cons (pg_name (i := 6) sc_cell_fault.nd rfl (Or.inl rfl)) (pgs_cons (pg_name (i := 7) sc_cell_fault.nd rfl (Or.inl rfl)) (pgs_cons (pg_name (i := 8) sc_cell_fault.nd rfl (Or.inl rfl)) pgs_nil)))))
 (pss_cons (ps_set (i := 9) sc_cell_fault.nd rfl (Or.inl rfl) (pe_ix (ix_tupK (K := K) rfl) (pe_ix (ix_tupK (K := K) rfl) (pv 0) pe_int (fun _ _ => rfl)) (pv 4) (fun _ _ => rfl)))
 (pss_cons (ps_set (i := 10) sc_cell_fault.nd rfl (Or.inl rfl) (pe_ix (ix_tupK (K := K) rfl) (pe_ix (ix_tupK (K := K) rfl) (pv 7) (pv 4) (fun _ _ => rfl)) (pv 5) (fun _ _ => rfl)))
 (pss_cons (ps_if (PW.pt (pw_or (PW.pt (pw_and (pt_cmpR op_isN (pe_ix (ix_tupK (K := K) rfl) (pv 9) (pe_gl T.NEXT rfl) (fun _ _ => rfl)) pe_non (nomark _)) (pw_and1 (pt_cmpR op_gt (pv 10) pe_int (nomark _))))) (pw_or1 (PW.pt (pw_and (pt_cmpR op_notN (pe_ix (ix_tupK (K := K) rfl) (pv 9) (pe_gl T.REACH rfl) (fun _ _ => rfl)) pe_non (nomark _)) (pw_and1 (pt_cmpR op_gt (pv 10) (pe_ix (ix_tupK (K := K) rfl) (pv 9) (pe_gl T.REACH rfl) (fun _ _ => rfl)) (nomark _))))))))
  (pss_one (ps_ret (pe_tup (pa_cons pe_str (pa_cons (pv 4) (pa_cons (pv 5) pa_nil))))))
  pss_nil)
 (pss_cons (ps_if (pt_cmpR op_gt (pe_ix (ix_tupK (K := K) rfl) (pe_ix (ix_tupK (K := K) rfl) (pv 8) (pv 4) (fun _ _ => rfl)) (pv 5) (fun _ _ => rfl)) (pe_ix (ix_tupK (K := K) rfl) (pv 9) (pe_gl T.ROOM rfl) (fun _ _ => rfl)) (nomark _))
  (pss_one (ps_ret (pe_tup (pa_cons pe_str (pa_cons (pv 4) (pa_cons (pv 5) pa_nil))))))
  pss_nil)
 (pss_one (ps_ret (pe_ifExp (pt_cmpR op_lt (pe_fn G_spill (hr.mono (by decide)) rfl (pa_cons (pv 0) (pa_cons (pv 1) (pa_cons (pv 2) (pa_cons (pv 3) pa_nil))))) pe_int (nomark _)) (pe_tup (pa_cons pe_str (pa_cons (pv 4) (pa_cons (pv 5) pa_nil)))) pe_non))))))))), ?_⟩
  refine sd_run h ?_
  rintro B0 B1 _ _ ⟨B, R, dl, rel, sto, s, m, hB, hR, hs, hm, ok, rfl, rfl⟩
  refine sd_seq (sd_asgG (by walk_at "ed") (by walk_at "gd") ?_)
  refine sd_seq (sd_asgG (by walk_at "ed") (by walk_at "gd") ?_)
  refine sd_seq (sd_asg (by walk_at "ed") ?_)
  refine sd_seq (sd_asg (by walk_at "ed") ?_)
  have out : ((isNon (nxtD (B.site s).nxt) && decide (0 < rel s m)) || (!isNon (optD (B.site s).reach) && decide ((B.site s).reach.getD 0 < rel s m))) = false := by
    have h1 := ok.out s hs
    have h2 := ok.reach s
    cases hx : (B.site s).nxt with
    | none =>
      have h3 := h1 (by unfold Basin.letTo; rw [hx])
      rw [h3]
      cases hr : (B.site s).reach with
      | none => rfl
      | some c =>
        have := hB.ok.reach s c hr
        show (decide (c < 0)) = false
        exact decide_eq_false (by omega)
    | some t =>
      cases hr : (B.site s).reach with
      | none => rfl
      | some c =>
        have := h2 c hs hr
        show (decide (c < rel s m)) = false
        exact decide_eq_false (by omega)
  refine sd_seq (sd_if (b := false) (et_is (et_orC (by walk_at "ed") (et_and (b := decide ((B.site s).reach.getD 0 < rel s m)) (by walk_at "ed") fun e => ?_)) out) (fun e => by cases e) fun _ => sd_next ?_)
  · cases hr : (B.site s).reach with
    | none =>
      rw [hr] at e
      cases e
    | some c =>
      refine et_is (et_test (ed_op (d := .int (rel s m)) (e := .int c) (by walk_at "ed") (ed_is (by walk_at "ed") (by rw [hr]; rfl)) rd_gt)) rfl
  refine sd_seq (sd_if (b := false) (et_is (by walk_at "ed") (decide_eq_false (by dsimp only; have := (ok.room s hs).2; omega))) (fun e => by cases e) fun _ => sd_next ?_)
  refine sd_ret (ed_if (b := false) (et_is (by walk_at "ed"; exact ⟨B, R, dl, rel, sto, s, m, hB, hR, hs, hm, rfl, rfl⟩; exact rd_lt) (decide_eq_false (by have := ok.bal s hs; omega))) (fun e => by cases e) fun _ => ed_non) rfl
abbrev s_month_fault : Stmt := tp 39
theorem sc_month_fault : FnScope ["basin", "rights", "plan", "month", "number", "right", "fault"] ["basin", "rights", "plan", "month"] (defScope s_month_fault) := ⟨rfl, rfl, rfl, by decide +kernel, rfl, by decide +kernel, by decide +kernel⟩
def d_month_fault (ds : List PyData) (d : PyData) : Prop := ∃ B R dl rel sto m, Bas B ∧ Rts B R ∧ m < B.M ∧ MonthOk B R dl rel sto m ∧ ds = [basinD B, rightsD R, planD B R dl rel sto, natD m] ∧ d = .none
theorem ok_month_fault {f : Addr} {fd : FuncData} (F : Fun K "month_fault" "month_fault" s_month_fault f fd) (T : Txt K mg CA CN CS)
    (G_cell_fault : FnF P w K mg base 6 "cell_fault" ["basin", "rights", "plan", "cell"] (spD 4 d_cell_fault)) : FnOk P w K mg base CX0 7 f fd ["basin", "rights", "plan", "month"] (spD 4 d_month_fault) := by
  refine F.ok sc_month_fault (fun vs H Q E h => spD_len h) (fun cdv A outer s H vs Q E hr h => ?_)
  refine ⟨_, (pss_cons (ps_for PassesOwn.never rfl (pi_enumT rfl T.b_enumerate (pa_cons (pv 1) pa_nil)) (pg_tupK (n := 2) (K := K) rfl rfl (pgs_cons (pg_name (i := 4) sc_month_fault.nd rfl (Or.inl rfl)) (pgs_cons (pg_name (i := 5) sc_month_fault.nd rfl (Or.inl rfl)) pgs_nil)))
  (pss_one (ps_if (pt_cmpR op_gt (pe_ix (ix_tupK (K := K) rfl) (pe_ix (ix_tupK (K := K) rfl) (pe_ix (ix_tupK (K := K) rfl) (pv 2) pe_int (fun _ _ => rfl)) (pv 4) (fun _ _ => rfl)) (pv 3) (fun _ _ => rfl)) (pe_ix (ix_tupK (K := K) rfl) (pe_ix (ix_tupK (K := K) rfl) (pv 5) pe_int (fun _ _ => rfl)) (pv 3) (fun _ _ => rfl)) (nomark _))
  (pss_one (ps_ret (pe_tup (pa_cons pe_str (pa_cons (pv 4) (pa_cons (pv 3) pa_nil))))))
  pss_nil)))
 (pss_cons (ps_for PassesOwn.never rfl (pi_range1 rfl T.b_range (pa_cons (pe_callB (call_lenK (K := K) rfl) rfl T.b_len PySem.boot_len (pa_cons (pe_ix (ix_tupK (K := K) rfl) (pv 0) pe_int (fun _ _ => rfl)) pa_nil)) pa_nil)) (pg_name (i := 4) sc_month_fault.nd rfl (Or.inl rfl))
  (pss_cons (ps_set (i := 6) sc_month_fault.nd rfl (Or.inl rfl) (pe_fn G_cell_fault (hr.mono (by decide)) rfl (pa_cons (pv 0) (pa_cons (pv 1) (pa_cons (pv 2) (pa_cons (pe_tup (pa_cons (pv 4) (pa_cons (pv 3) pa_nil))) pa_nil))))))
 (pss_one (ps_if (pt_cmpR op_notN (pv 6) pe_non (nomark _))
  (pss_one (ps_ret (pv 6)))
  pss_nil))))
 (pss_one (ps_ret pe_non)))), ?_⟩
  refine sd_run h ?_
  rintro B0 B1 _ _ ⟨B, R, dl, rel, sto, m, hB, hR, hm, ok, rfl, rfl⟩
  have hn := hB.n
  refine sd_seq (sd_for (ei_enumT (L := List.range R.length) (emb := fun k => rightD k (rt R k)) (by walk_at "ed")) (fun i ρ1 => ∃ x y z, ρ1 = [.dat (basinD B), .dat (rightsD R), .dat (planD B R dl rel sto), .dat (natD m), x, y, z]) ⟨_, _, _, rfl⟩ ?_ ?_)
  · rintro i p ρ1 hx ⟨x, y, z, rfl⟩
    obtain ⟨hr, rfl⟩ := enum_at (n := R.length) hx
    have hl : m < (rt R i).dem.length := by rw [hR.ok.len _ (rt_mem hr)]; exact hm
    refine ⟨_, by walk_at "gd", ?_⟩
    exact sd_if (b := false) (et_is (by walk_at "ed") (decide_eq_false (by dsimp only; have := (ok.d0 i hr).2; omega))) (fun e => by cases e) fun _ => sd_next ⟨_, _, _, rfl⟩
  rintro ρ1 ⟨x, y, z, rfl⟩
  refine sd_seq (sd_for (ei_rng1 (n := B.n) (ea_cons (ed_lenR (by walk_at "ed")) ea_nil) (by omega)) (fun i ρ1 => ∃ x y z, ρ1 = [.dat (basinD B), .dat (rightsD R), .dat (planD B R dl rel sto), .dat (natD m), x, y, z]) ⟨_, _, _, rfl⟩ ?_ ?_)
  · rintro i s ρ1 hx ⟨x, y, z, rfl⟩
    obtain ⟨rfl, hs⟩ := rng_at hx
    refine ⟨_, by walk_at "gd", ?_⟩
    refine sd_seq (sd_asg (d := .none) (by walk_at "ed"; exact ⟨B, R, dl, rel, sto, s, m, hB, hR, hs, hm, ok, rfl, rfl⟩) ?_)
    exact sd_if (b := false) (et_is (by walk_at "ed") rfl) (fun e => by cases e) fun _ => sd_next ⟨_, _, _, rfl⟩
  rintro ρ1 ⟨x, y, z, rfl⟩
  exact sd_ret ed_non rfl
abbrev s_plan_fault : Stmt := tp 40
theorem sc_plan_fault : FnScope ["basin", "rights", "plan", "month", "fault"] ["basin", "rights", "plan"] (defScope s_plan_fault) := ⟨rfl, rfl, rfl, by decide +kernel, rfl, by decide +kernel, by decide +kernel⟩
def d_plan_fault (ds : List PyData) (d : PyData) : Prop := ∃ B R dl rel sto, Bas B ∧ Rts B R ∧ (∀ m, m < B.M → MonthOk B R dl rel sto m) ∧ ds = [basinD B, rightsD R, planD B R dl rel sto] ∧ d = .none
theorem ok_plan_fault {f : Addr} {fd : FuncData} (F : Fun K "plan_fault" "plan_fault" s_plan_fault f fd) (T : Txt K mg CA CN CS)
    (G_month_fault : FnF P w K mg base 7 "month_fault" ["basin", "rights", "plan", "month"] (spD 4 d_month_fault)) : FnOk P w K mg base CX0 8 f fd ["basin", "rights", "plan"] (spD 3 d_plan_fault) := by
  refine F.ok sc_plan_fault (fun vs H Q E h => spD_len h) (fun cdv A outer s H vs Q E hr h => ?_)
  refine ⟨_, (pss_cons (ps_for PassesOwn.never rfl (pi_range1 rfl T.b_range (pa_cons (pe_ix (ix_tupK (K := K) rfl) (pv 0) pe_int (fun _ _ => rfl)) pa_nil)) (pg_name (i := 3) sc_plan_fault.nd rfl (Or.inl rfl))
  (pss_cons (ps_set (i := 4) sc_plan_fault.nd rfl (Or.inl rfl) (pe_fn G_month_fault (hr.mono (by decide)) rfl (pa_cons (pv 0) (pa_cons (pv 1) (pa_cons (pv 2) (pa_cons (pv 3) pa_nil))))))
 (pss_one (ps_if (pt_cmpR op_notN (pv 4) pe_non (nomark _))
  (pss_one (ps_ret (pv 4)))
  pss_nil))))
 (pss_one (ps_ret pe_non))), ?_⟩
  refine sd_run h ?_
  rintro B0 B1 _ _ ⟨B, R, dl, rel, sto, hB, hR, ok, rfl, rfl⟩
  have hM := hB.M
  refine sd_seq (sd_for (ei_rng1 (n := B.M) (by walk_at "ed") (by omega)) (fun i ρ1 => ∃ x y, ρ1 = [.dat (basinD B), .dat (rightsD R), .dat (planD B R dl rel sto), x, y]) ⟨_, _, rfl⟩ ?_ ?_)
  · rintro i m ρ1 hx ⟨x, y, rfl⟩
    obtain ⟨rfl, hm⟩ := rng_at hx
    refine ⟨_, by walk_at "gd", ?_⟩
    refine sd_seq (sd_asg (d := .none) (by walk_at "ed"; exact ⟨B, R, dl, rel, sto, m, hB, hR, hm, ok m hm, rfl, rfl⟩) ?_)
    exact sd_if (b := false) (et_is (by walk_at "ed") rfl) (fun e => by cases e) fun _ => sd_next ⟨_, _, rfl⟩
  rintro ρ1 ⟨x, y, rfl⟩
  exact sd_ret ed_non rfl
abbrev s_spills : Stmt := tp 41
theorem sc_spills : FnScope ["basin", "rights", "plan", "rows", "months", "sites", "cell", "number", "month"] ["basin", "rights", "plan"] (defScope s_spills) := ⟨rfl, rfl, rfl, by decide +kernel, rfl, by decide +kernel, by decide +kernel⟩
def d_spills (ds : List PyData) (d : PyData) : Prop := ∃ B R dl rel sto, Bas B ∧ Rts B R ∧ (∀ m, m < B.M → MonthOk B R dl rel sto m) ∧ ds = [basinD B, rightsD R, planD B R dl rel sto] ∧ d = rowsD B.n B.M fun s m => B.recv rel sto s m - used R dl rel sto s m
theorem ok_spills {f : Addr} {fd : FuncData} (F : Fun K "spills" "spills" s_spills f fd) (T : Txt K mg CA CN CS)
    (G_cells : FnF P w K mg base 1 "cells" ["basin"] (spD 1 d_cells))
    (G_plan_fault : FnF P w K mg base 8 "plan_fault" ["basin", "rights", "plan"] (spD 3 d_plan_fault))
    (G_spill : FnF P w K mg base 5 "spill" ["basin", "rights", "plan", "cell"] (spD 4 d_spill)) : FnOk P w K mg base CX0 9 f fd ["basin", "rights", "plan"] (spD 3 d_spills) := by
  refine F.ok sc_spills (fun vs H Q E h => spD_len h) (fun cdv A outer s H vs Q E hr h => ?_)
  refine ⟨_, (pss_cons (ps_if (pt_cmpR op_notN (pe_fn G_plan_fault (hr.mono (by decide)) rfl (pa_cons (pv 0) (pa_cons (pv 1) (pa_cons (pv 2) pa_nil)))) pe_non (nomark _))
  (pss_one ps_never)
  pss_nil)
 (pss_cons (ps_set (i := 3) sc_spills.nd rfl (Or.inr rfl) (pe_dcT  (own := [("cell", 6)]) (hu_of hr) rfl sc_spills.nd (pi_listK (K := K) rfl (pe_fn G_cells (hr.mono (by decide)) rfl (pa_cons (pv 0) pa_nil))) (blkOk_by (own := [("cell", 6)]) (N := ["basin", "rights", "plan", "rows", "months", "sites", "cell", "number", "month"]) (sc := (defScope s_spills)) (by decide +kernel))
   (fun _ _ _ _ _ => (pg_name (i := 6) sc_spills.nd rfl (Or.inl rfl)))
   (fun _ _ _ _ _ => pts_nil)
   (fun _ _ _ _ _ => (pv 6))
   (fun _ _ _ _ _ => (pe_fn G_spill (hr.mono (by decide)) rfl (pa_cons (pv 0) (pa_cons (pv 1) (pa_cons (pv 2) (pa_cons (pv 6) pa_nil))))))))
 (pss_cons (ps_asg (pv 0) (pg_tupK (n := 2) (K := K) rfl rfl (pgs_cons (pg_name (i := 4) sc_spills.nd rfl (Or.inr rfl)) (pgs_cons (pg_name (i := 5) sc_spills.nd rfl (Or.inl rfl)) pgs_nil))))
 (pss_one (ps_ret (pe_callTy (call_tupK (K := K) rfl) rfl T.b_tuple (by decide +kernel) (pa_cons (pe_lc  (own := [("number", 7)]) rfl sc_spills.nd (pi_range1 rfl T.b_range (pa_cons (pe_callB (call_lenK (K := K) rfl) rfl T.b_len PySem.boot_len (pa_cons (pv 5) pa_nil)) pa_nil)) (blkOk_by (own := [("number", 7)]) (N := ["basin", "rights", "plan", "rows", "months", "sites", "cell", "number", "month"]) (sc := (defScope s_spills)) (by decide +kernel))
   (fun _ _ _ _ _ => (pg_name (i := 7) sc_spills.nd rfl (Or.inr rfl)))
   (fun _ _ _ _ _ => pts_nil)
   (fun _ _ _ _ _ => (pe_callTy (call_tupK (K := K) rfl) rfl T.b_tuple (by decide +kernel) (pa_cons (pe_lc  (own := [("month", 8)]) rfl sc_spills.nd (pi_range1 rfl T.b_range (pa_cons (pv 4) pa_nil)) (blkOk_by (own := [("month", 8)]) (N := ["basin", "rights", "plan", "rows", "months", "sites", "cell", "number", "month"]) (sc := (relS _ (defScope s_spills))) (by decide +kernel))
   (fun _ _ _ _ _ => (pg_name (i := 8) sc_spills.nd rfl (Or.inl rfl)))
   (fun _ _ _ _ _ => pts_nil)
   (fun _ _ _ _ _ => (pe_dget (hu_of hr) (pv 3) (pe_tup (pa_cons (pv 7) (pa_cons (pv 8) pa_nil))) (fun _ _ => rfl)))) pa_nil)))) pa_nil))))))), ?_⟩
  refine sd_run h ?_
  rintro B0 B1 _ _ ⟨B, R, dl, rel, sto, hB, hR, ok, rfl, rfl⟩
  have hM := hB.M
  have hn := hB.n
  have z1 : B.cells.length ≤ 16 := by rw [cells_len]; exact Nat.mul_le_mul hB.M hB.n
  refine sd_seq (sd_if (b := false) (et_is (by walk_at "ed"; exact ⟨B, R, dl, rel, sto, hB, hR, ok, rfl, rfl⟩; exact rd_notN) rfl) (fun e => by cases e) fun _ => sd_next ?_)
  refine sd_seq (sd_dcT (emb := cellD) (fun c => B.recv rel sto c.1 c.2 - used R dl rel sto c.1 c.2) (EdI.weak (ei_list (by walk_at "ed"; exact ⟨B, hB, rfl, rfl⟩))) (by omega) ?_ ?_)
  · rintro i ⟨s, m⟩ hx
    obtain ⟨h1, h2⟩ := mem_cells.mp (List.mem_of_getElem? hx)
    exact ⟨_, by walk_at "gd", by walk_at "ed", by walk_at "ed"; exact ⟨B, R, dl, rel, sto, s, m, hB, hR, h1, h2, rfl, rfl⟩⟩
  refine sd_seq (sd_asgG (by walk_at "ed") (by walk_at "gd") ?_)
  refine sd_ret (ed_tupL (el_ed (ed_lc1 (fun s => .tuple ((List.range B.M).map fun m => .int (B.recv rel sto s m - used R dl rel sto s m))) (EdI.weak (ei_rng1 (ea_cons (ed_lenR (by walk_at "ed")) ea_nil) (by omega))) (by simp; omega) ?_))) rfl
  intro i s hs
  obtain ⟨rfl, hs⟩ := rng_at hs
  refine ⟨_, by walk_at "gd", ed_tupL (el_ed (ed_lc1 (fun m => .int (B.recv rel sto s m - used R dl rel sto s m)) (EdI.weak (ei_rng1 (by walk_at "ed") (by omega))) (by simp; omega) ?_))⟩
  intro j m hm
  obtain ⟨rfl, hm⟩ := rng_at hm
  exact ⟨_, by walk_at "gd", ed_dget (c := (s, m)) rfl (by walk_at "ed") (if_pos (mem_cells.mpr ⟨hs, hm⟩))⟩
end HW
end
section
/-! HWF3: the defs of seasons that make data of data. -/
namespace HW
open PySem PySem.Spec PyProof.Rows L2
local macro_rules | `(tactic| walk_at "ed") => `(tactic| repeat' (first
  | exact ed_int | exact ed_str | exact ed_bl | exact ed_non | exact ea_nil | exact eo_none
  | exact ed_var rfl
  | with_reducible apply ea_cons
  | with_reducible apply ed_op
  | with_reducible apply ed_un
  | with_reducible apply ed_tupT
  | with_reducible apply ed_lstT
  | with_reducible apply et_test
  | with_reducible apply et_B
  | with_reducible apply et_andC
  | with_reducible apply et_orC
  | with_reducible apply et_not
  | with_reducible apply eo_some
  | with_reducible apply ed_callT
  | exact rd_add | exact rd_sub | exact rd_lt | exact rd_le | exact rd_gt | exact rd_ge | exact rd_isN | exact rd_notN | exact ru_neg
  | exact rd_ixT rfl
  | exact rd_ixT (at_rng (by assumption))
  | exact rd_ixT (at_ints (by assumption))
  | exact rd_ixT (at_pred (by assumption))
  | (show List.length _ = _; exact rfl)
  | (show List.length _ ≤ 100000; exact Nat.le_of_ble_eq_true rfl)
  | apply ed_tupT))
local macro_rules | `(tactic| walk_at "gd") => `(tactic| repeat' (first | exact gd_name (by decide) | exact gs_nil | with_reducible apply gs_cons | refine' gd_tup ?_ rfl))
variable {P : Program} {w : World} {K : PySem.W.Frag} {mg : Str → Option Value} {base : Heap} {CA CN CS : Addr}
def lmin : Option Int → Int → Int
  | none, b => b
  | some a, b => min a b
abbrev s_least : Stmt := tp 26
theorem sc_least : FnScope ["one", "other"] ["one", "other"] (defScope s_least) := ⟨rfl, rfl, rfl, by decide +kernel, rfl, by decide +kernel, by decide +kernel⟩
def d_least (ds : List PyData) (d : PyData) : Prop := ∃ a b, ds = [optD a, .int b] ∧ d = .int (lmin a b)
theorem ok_least {f : Addr} {fd : FuncData} (F : Fun K "least" "least" s_least f fd) (T : Txt K mg CA CN CS)
     : FnOk P w K mg base CX0 1 f fd ["one", "other"] (spD 2 d_least) := by
  refine F.ok sc_least (fun vs H Q E h => spD_len h) (fun cdv A outer s H vs Q E hr h => ?_)
  refine ⟨_, (pss_cons (ps_if (pt_cmpR op_isN (pv 0) pe_non (nomark _))
  (pss_one (ps_ret (pv 1)))
  pss_nil)
 (pss_one (ps_ret (pe_ifExp (pt_cmpR op_isN (pv 1) pe_non (nomark _)) (pv 0) (pe_callB (call_min2 rfl) rfl T.b_min (by decide +kernel) (pa_cons (pv 0) (pa_cons (pv 1) pa_nil))))))), ?_⟩
  refine sd_run h ?_
  rintro B0 B1 _ _ ⟨a, b, rfl, rfl⟩
  cases a with
  | none => exact sd_seq (sd_if (b := true) (et_is (by walk_at "ed") rfl) (fun _ => sd_ret (by walk_at "ed") rfl) fun e => by cases e)
  | some a =>
    refine sd_seq (sd_if (b := false) (et_is (by walk_at "ed") rfl) (fun e => by cases e) fun _ => sd_next ?_)
    exact sd_ret (ed_if (b := false) (et_is (by walk_at "ed") rfl) (fun e => by cases e) fun _ => ed_cb (by walk_at "ed") rc_min2) rfl
abbrev s_are_inflows : Stmt := tp 45
theorem sc_are_inflows : FnScope ["basin", "inflows", "number"] ["basin", "inflows"] (defScope s_are_inflows) := ⟨rfl, rfl, rfl, by decide +kernel, rfl, by decide +kernel, by decide +kernel⟩
def d_are_inflows (ds : List PyData) (d : PyData) : Prop := ∃ B xs, Bas B ∧ xs.length = B.n ∧ (∀ x ∈ xs, 0 ≤ x ∧ x ≤ 99) ∧ ds = [basinD B, intsD xs] ∧ d = .bool true
theorem ok_are_inflows {f : Addr} {fd : FuncData} (F : Fun K "are_inflows" "are_inflows" s_are_inflows f fd) (T : Txt K mg CA CN CS)
     : FnOk P w K mg base CX0 1 f fd ["basin", "inflows"] (spD 2 d_are_inflows) := by
  refine F.ok sc_are_inflows (fun vs H Q E h => spD_len h) (fun cdv A outer s H vs Q E hr h => ?_)
  refine ⟨_, (pss_cons (ps_if (PW.pt (pw_or (pt_not (pt_val (pe_callB call_isi rfl T.b_isinstance (by decide +kernel) (pa_cons (pv 1) (pa_cons (pe_bltn (v := .ty "tuple") rfl T.b_tuple (by decide +kernel) rfl) pa_nil))))) (pw_or1 (pt_cmpR (op_neK (K := K) rfl hr.units) (pe_callB (call_lenK (K := K) rfl) rfl T.b_len PySem.boot_len (pa_cons (pv 1) pa_nil)) (pe_callB (call_lenK (K := K) rfl) rfl T.b_len PySem.boot_len (pa_cons (pe_ix (ix_tupK (K := K) rfl) (pv 0) pe_int (fun _ _ => rfl)) pa_nil)) (nomark _)))))
  (pss_one (ps_ret pe_bl))
  pss_nil)
 (pss_cons (ps_for PassesOwn.never rfl (pi_tupK (K := K) rfl (pv 1)) (pg_name (i := 2) sc_are_inflows.nd rfl (Or.inl rfl))
  (pss_one (ps_if (PW.pt (pw_or (pt_not (pt_val (pe_callB call_isi rfl T.b_isinstance (by decide +kernel) (pa_cons (pv 2) (pa_cons (pe_bltn (v := .ty "int") rfl T.b_int (by decide +kernel) rfl) pa_nil))))) (pw_or (pt_val (pe_callB call_isi rfl T.b_isinstance (by decide +kernel) (pa_cons (pv 2) (pa_cons (pe_bltn (v := .ty "bool") rfl T.b_bool (by decide +kernel) rfl) pa_nil)))) (pw_or1 (pt_not (pt_chain op_le op_le pe_int (pv 2) (pe_gl T.AMOUNT_MOST rfl)))))))
  (pss_one (ps_ret pe_bl))
  pss_nil)))
 (pss_one (ps_ret pe_bl)))), ?_⟩
  refine sd_run h ?_
  rintro B0 B1 _ _ ⟨B, xs, hB, hl, hx, rfl, rfl⟩
  have hn := hB.n
  refine sd_seq (sd_if (b := false) (et_is (et_orC (et_not (et_B (rc_isi (fun H v => ty_tup) rfl (by walk_at "ed")))) (et_test (ed_op (ed_lenM (L := xs) (by walk_at "ed")) (ed_lenR (n := B.n) (by walk_at "ed")) (rd_neD rfl rfl)))) ?_) (fun e => by cases e) fun _ => sd_next ?_)
  · show (!true || !PyData.eqv (natD xs.length) (natD B.n)) = false
    rw [eqv_nat, decide_eq_true hl]
    rfl
  refine sd_seq (sd_for (ei_tup (L := xs) (emb := PyData.int) (by walk_at "ed")) (fun i ρ1 => ∃ x, ρ1 = [.dat (basinD B), .dat (intsD xs), x]) ⟨_, rfl⟩ ?_ ?_)
  · rintro i z ρ1 hz ⟨x, rfl⟩
    obtain ⟨h0, h1⟩ := hx z (List.mem_of_getElem? hz)
    refine ⟨_, by walk_at "gd", ?_⟩
    refine sd_if (b := false) (et_is (et_orC (et_not (et_B (rc_isi (fun H v => ty_int) rfl (by walk_at "ed")))) (et_orC (et_B (rc_isi (fun H v => ty_int) rfl (by walk_at "ed"))) (et_not (et_chain (by walk_at "ed") (by walk_at "ed") rd_le (fun _ => by walk_at "ed") rd_le)))) ?_) (fun e => by cases e) fun _ => sd_next ⟨_, rfl⟩
    rw [decide_eq_true h0, decide_eq_true h1]
    rfl
  · rintro ρ1 ⟨x, rfl⟩
    exact sd_ret (by walk_at "ed") rfl
theorem recs_at {fs : List FRec} {k : Nat} {f : FRec} (h : fs[k]? = some f) (j : Nat) : recRel (recsOf fs) j k = f.r.rel.getD j 0 ∧ recSto (recsOf fs) j k = f.r.sto.getD j 0 ∧ recD (recsOf fs) j k = f.r.d.getD j 0 := by
  have e : rcd (recsOf fs) k = f.r := by
    unfold rcd recsOf
    rw [List.getD_eq_getElem?_getD, List.getElem?_map, h]
    rfl
  unfold recRel recSto recD
  rw [e]
  exact ⟨rfl, rfl, rfl⟩
abbrev s_arriving : Stmt := tp 46
theorem sc_arriving : FnScope ["basin", "records", "number", "month", "total", "other", "site", "when"] ["basin", "records", "number", "month"] (defScope s_arriving) := ⟨rfl, rfl, rfl, by decide +kernel, rfl, by decide +kernel, by decide +kernel⟩
def d_arriving (ds : List PyData) (d : PyData) : Prop := ∃ B R fs s m, Bas B ∧ FsOk B R fs ∧ s < B.n ∧ ds = [basinD B, .list (fs.map frecD), natD s, natD m] ∧ d = .int (arrive B (recsOf fs) s m)
theorem ok_arriving {f : Addr} {fd : FuncData} (F : Fun K "arriving" "arriving" s_arriving f fd) (T : Txt K mg CA CN CS)
    (G_site_number : FnF P w K mg base 1 "site_number" ["basin", "name"] (spD 2 d_site_number)) : FnOk P w K mg base CX0 2 f fd ["basin", "records", "number", "month"] (spD 4 d_arriving) := by
  refine F.ok sc_arriving (fun vs H Q E h => spD_len h) (fun cdv A outer s H vs Q E hr h => ?_)
  refine ⟨_, (pss_cons (ps_set (i := 4) sc_arriving.nd rfl (Or.inl rfl) pe_int)
 (pss_cons (ps_for PassesOwn.never rfl (pi_enumT rfl T.b_enumerate (pa_cons (pe_ix (ix_tupK (K := K) rfl) (pv 0) pe_int (fun _ _ => rfl)) pa_nil)) (pg_tupK (n := 2) (K := K) rfl rfl (pgs_cons (pg_name (i := 5) sc_arriving.nd rfl (Or.inl rfl)) (pgs_cons (pg_name (i := 6) sc_arriving.nd rfl (Or.inl rfl)) pgs_nil)))
  (pss_cons (ps_set (i := 7) sc_arriving.nd rfl (Or.inl rfl) (pe_op op_sub (pv 3) (pe_ix (ix_tupK (K := K) rfl) (pv 6) (pe_gl T.TRAVEL rfl) (fun _ _ => rfl))))
 (pss_one (ps_if (PW.pt (pw_and (pt_cmpR op_notN (pe_ix (ix_tupK (K := K) rfl) (pv 6) (pe_gl T.NEXT rfl) (fun _ _ => rfl)) pe_non (nomark _)) (pw_and (pt_cmpR (op_eqK (K := K) rfl hr.units) (pe_fn G_site_number (hr.mono (by decide)) rfl (pa_cons (pv 0) (pa_cons (pe_ix (ix_tupK (K := K) rfl) (pv 6) (pe_gl T.NEXT rfl) (fun _ _ => rfl)) pa_nil))) (pv 2) (nomark _)) (pw_and1 (pt_chain op_le op_lt pe_int (pv 7) (pe_callB (call_lenK (K := K) rfl) rfl T.b_len PySem.boot_len (pa_cons (pv 1) pa_nil)))))))
  (pss_one (ps_aug (i := 4) sc_arriving.nd rfl (Or.inl rfl) (pe_ix (ix_tupK (K := K) rfl) (pe_ix (ix_tupK (K := K) rfl) (pe_ix (ix_lisK (K := K) rfl) (pv 1) (pv 7) (fun _ _ => rfl)) (pe_gl T.RECORD_RELEASES rfl) (fun _ _ => rfl)) (pv 5) (fun _ _ => rfl)) ip_add))
  pss_nil))))
 (pss_one (ps_ret (pv 4))))), ?_⟩
  refine sd_run h ?_
  rintro B0 B1 _ _ ⟨B, R, fs, s, m, hB, hF, hs, rfl, rfl⟩
  have hn := hB.n
  refine sd_seq (sd_asg (by walk_at "ed") ?_)
  refine sd_seq (sd_for (ei_enumT (L := List.range B.n) (emb := fun k => siteD k (B.site k)) (by walk_at "ed")) (fun i ρ1 => ∃ x y z, ρ1 = [.dat (basinD B), .dat (.list (fs.map frecD)), .dat (natD s), .dat (natD m), .dat (.int (sumL (List.range i) fun j => if (B.site j).nxt = some s ∧ (B.site j).tr ≤ m ∧ m - (B.site j).tr < (recsOf fs).length then recRel (recsOf fs) j (m - (B.site j).tr) else 0)), x, y, z]) ⟨.any, .any, .any, rfl⟩ ?_ ?_)
  · rintro j p ρ1 hx ⟨x, y, z, rfl⟩
    obtain ⟨hj, rfl⟩ := enum_at (n := B.n) hx
    refine ⟨_, by walk_at "gd", ?_⟩
    refine sd_seq (sd_asg (d := .int ((m : Int) - ((B.site j).tr : Nat))) (by walk_at "ed") ?_)
    have hlen : (recsOf fs).length = fs.length := by unfold recsOf; simp
    have skip : ∀ x : Int, ¬ ((B.site j).nxt = some s ∧ (B.site j).tr ≤ m ∧ m - (B.site j).tr < (recsOf fs).length) → sumL (List.range (j + 1)) (fun j => if (B.site j).nxt = some s ∧ (B.site j).tr ≤ m ∧ m - (B.site j).tr < (recsOf fs).length then recRel (recsOf fs) j (m - (B.site j).tr) else 0) = sumL (List.range j) (fun j => if (B.site j).nxt = some s ∧ (B.site j).tr ≤ m ∧ m - (B.site j).tr < (recsOf fs).length then recRel (recsOf fs) j (m - (B.site j).tr) else 0) := fun x h => by
      rw [sumR_succ, if_neg h, Int.add_zero]
    cases hx : (B.site j).nxt with
    | none =>
      refine sd_if (b := false) (et_is (et_and (a := false) (b := false) (et_is (by walk_at "ed") (by rw [hx]; rfl)) (fun e => by cases e)) rfl) (fun e => by cases e) fun _ => sd_next ⟨.dat (natD j), .dat (siteD j (B.site j)), .dat (.int ((m : Int) - ((B.site j).tr : Nat))), ?_⟩
      rw [skip 0 (by rw [hx]; intro h; cases h.1)]
      rfl
    | some t =>
      have ht := (hB.ok.nxt j t hj hx).2
      refine sd_if (b := decide (t = s) && (decide ((0 : Int) ≤ (m : Int) - ((B.site j).tr : Nat)) && decide ((m : Int) - ((B.site j).tr : Nat) < (fs.length : Int)))) (et_is (et_and (a := true) (et_is (by walk_at "ed") (by rw [hx]; rfl)) fun _ => et_andC (et_is (by walk_at "ed"; exact ⟨B, t, hB, ht, by rw [hx]; rfl, rfl⟩; exact rd_eqD rfl rfl) eqv_nat) (et_chain (by walk_at "ed") (by walk_at "ed") rd_le (fun _ => ed_lenLM (L := fs) (f := frecD) (el_ed (by walk_at "ed"))) rd_lt)) (by rw [Bool.true_and])) (fun e => ?_) fun e => sd_next ⟨.dat (natD j), .dat (siteD j (B.site j)), .dat (.int ((m : Int) - ((B.site j).tr : Nat))), ?_⟩
      · simp only [Bool.and_eq_true, decide_eq_true_eq] at e
        obtain ⟨rfl, e1, e2⟩ := e
        have hk : m - (B.site j).tr < fs.length := by omega
        obtain ⟨f, hf⟩ : ∃ f, fs[m - (B.site j).tr]? = some f := ⟨_, List.getElem?_eq_getElem hk⟩
        have hl := hF.rel f (List.mem_of_getElem? hf)
        have hj' : j < f.r.rel.length := by omega
        refine sd_aug (f := fun i j => i + j) rfl (b := f.r.rel.getD j 0) (ed_op (ed_op (d := frecD f) (ed_op (by walk_at "ed") (by walk_at "ed") (rd_ixL (at_int (k := m - (B.site j).tr) (by omega) (by rw [List.getElem?_map, hf]; rfl)))) (by walk_at "ed") (rd_ixT rfl)) (by walk_at "ed") (rd_ixT (at_ints hj'))) ⟨.dat (natD j), .dat (siteD j (B.site j)), .dat (.int ((m : Int) - ((B.site j).tr : Nat))), ?_⟩
        rw [sumR_succ, if_pos ⟨hx, by omega, by omega⟩, (recs_at hf j).1]
        rfl
      · rw [skip 0]
        · rfl
        · rintro ⟨h1, h2, h3⟩
          rw [hx] at h1
          cases h1
          rw [decide_eq_true rfl, decide_eq_true (by omega), decide_eq_true (by omega)] at e
          cases e
  · rintro ρ1 ⟨x, y, z, rfl⟩
    refine sd_ret (ed_var rfl) ?_
    simp only [List.length_zip, List.length_range, Nat.min_self]
    rfl
abbrev s_rest_site : Stmt := tp 47
theorem sc_rest_site : FnScope ["basin", "records", "number", "inflow", "begun", "site", "held", "inflows", "month", "outside"] ["basin", "records", "number", "inflow"] (defScope s_rest_site) := ⟨rfl, rfl, rfl, by decide +kernel, rfl, by decide +kernel, by decide +kernel⟩
def d_rest_site (ds : List PyData) (d : PyData) : Prop := ∃ B R fs s x, Bas B ∧ FsOk B R fs ∧ fs.length < B.M ∧ s < B.n ∧ ds = [basinD B, .list (fs.map frecD), natD s, .int x] ∧ d = siteD s (restSite B (recsOf fs) (fun _ => x) s)
theorem ok_rest_site {f : Addr} {fd : FuncData} (F : Fun K "rest_site" "rest_site" s_rest_site f fd) (T : Txt K mg CA CN CS)
    (G_arriving : FnF P w K mg base 2 "arriving" ["basin", "records", "number", "month"] (spD 4 d_arriving)) : FnOk P w K mg base CX0 3 f fd ["basin", "records", "number", "inflow"] (spD 4 d_rest_site) := by
  refine F.ok sc_rest_site (fun vs H Q E h => spD_len h) (fun cdv A outer s H vs Q E hr h => ?_)
  refine ⟨_, (pss_cons (ps_set (i := 4) sc_rest_site.nd rfl (Or.inl rfl) (pe_callB (call_lenK (K := K) rfl) rfl T.b_len PySem.boot_len (pa_cons (pv 1) pa_nil)))
 (pss_cons (ps_set (i := 5) sc_rest_site.nd rfl (Or.inl rfl) (pe_ix (ix_tupK (K := K) rfl) (pe_ix (ix_tupK (K := K) rfl) (pv 0) pe_int (fun _ _ => rfl)) (pv 2) (fun _ _ => rfl)))
 (pss_cons (ps_set (i := 6) sc_rest_site.nd rfl (Or.inl rfl) (pe_ifExp (pt_truth (pv 1) (by intro _; rfl)) (pe_ix (ix_tupK (K := K) rfl) (pe_ix (ix_tupK (K := K) rfl) (pe_ix (ix_lisK (K := K) rfl) (pv 1) (pe_un un_neg pe_int) (fun _ _ => rfl)) (pe_gl T.RECORD_STORAGES rfl) (fun _ _ => rfl)) (pv 2) (fun _ _ => rfl)) (pe_ix (ix_tupK (K := K) rfl) (pv 5) (pe_gl T.HELD rfl) (fun _ _ => rfl))))
 (pss_cons (ps_set (i := 7) sc_rest_site.nd rfl (Or.inl rfl) (pe_lst pa_nil))
 (pss_cons (ps_for PassesOwn.never rfl (pi_range2 rfl T.b_range (pa_cons (pv 4) (pa_cons (pe_ix (ix_tupK (K := K) rfl) (pv 0) pe_int (fun _ _ => rfl)) pa_nil))) (pg_name (i := 8) sc_rest_site.nd rfl (Or.inl rfl))
  (pss_cons (ps_set (i := 9) sc_rest_site.nd rfl (Or.inl rfl) (pe_ifExp (pt_cmpR (op_eqK (K := K) rfl hr.units) (pv 8) (pv 4) (nomark _)) (pv 3) (pe_ix (ix_tupK (K := K) rfl) (pe_ix (ix_tupK (K := K) rfl) (pv 5) (pe_gl T.INFLOWS rfl) (fun _ _ => rfl)) (pv 8) (fun _ _ => rfl))))
 (pss_one (ps_expr (pe_bm PySem.F.plainAttrs_list PySem.F.slot_list_append PySem.F.type_list_append mt_append (pv 7) (pa_cons (pe_op op_add (pv 9) (pe_fn G_arriving (hr.mono (by decide)) rfl (pa_cons (pv 0) (pa_cons (pv 1) (pa_cons (pv 2) (pa_cons (pv 8) pa_nil)))))) pa_nil))))))
 (pss_one (ps_ret (pe_op (op_catTK (K := K) rfl) (pe_slice (sl_tupK (K := K) rfl) (pv 5) po_none (po_some (pe_gl T.HELD rfl))) (pe_tup (pa_cons (pv 6) (pa_cons (pe_callTy (call_tupK (K := K) rfl) rfl T.b_tuple (by decide +kernel) (pa_cons (pv 7) pa_nil)) pa_nil))))))))))), ?_⟩
  refine sd_run h ?_
  rintro B0 B1 _ _ ⟨B, R, fs, s, x, hB, hF, hlt, hs, rfl, rfl⟩
  have hn := hB.n
  have hM := hB.M
  have hlen : (recsOf fs).length = fs.length := by unfold recsOf; simp
  refine sd_seq (sd_asg (d := natD fs.length) (ed_lenLM (L := fs) (f := frecD) (el_ed (by walk_at "ed"))) ?_)
  refine sd_seq (sd_asg (by walk_at "ed") ?_)
  refine sd_seq (sd_asg (d := .int (heldOf B (recsOf fs) s)) ?_ ?_)
  · refine ed_if (et_truthL (by walk_at "ed")) (fun e => ?_) fun e => ?_
    · obtain ⟨k, hk⟩ : ∃ k, fs.length = k + 1 := by
        cases fs with
        | nil => cases e
        | cons a l => exact ⟨_, rfl⟩
      obtain ⟨f, hf⟩ : ∃ f, fs[k]? = some f := ⟨_, List.getElem?_eq_getElem (by omega)⟩
      have hl := hF.sto f (List.mem_of_getElem? hf)
      have hj' : s < f.r.sto.length := by omega
      refine ed_is (d := .int (f.r.sto.getD s 0)) (ed_op (ed_op (d := frecD f) (ed_op (by walk_at "ed") (ed_un ed_int ru_neg) (rd_ixL (at_last (k := k) (by rw [List.length_map]; exact hk) (by rw [List.getElem?_map, hf]; rfl)))) (by walk_at "ed") (rd_ixT rfl)) (by walk_at "ed") (rd_ixT (at_ints hj'))) ?_
      unfold heldOf
      rw [hlen, if_neg (by omega), hk, Nat.add_sub_cancel, (recs_at hf s).2.1]
    · have : fs = [] := by
        cases fs with
        | nil => rfl
        | cons a l => cases e
      subst this
      exact ed_is (d := .int (B.site s).held) (by walk_at "ed") rfl
  refine sd_seq (sd_own ?_)
  let g : Nat → PyData := fun i => .int ((if i = 0 then x else B.infl s (fs.length + i)) + arrive B (recsOf fs) s (fs.length + i))
  refine sd_seq (sd_for (ei_rng2 (lo := fs.length) (n := B.M - fs.length) (ea_cons (ed_var rfl) (ea_cons (ed_is (d := natD B.M) (by walk_at "ed") (by show PyData.int _ = PyData.int _; congr 1; omega)) ea_nil)) (by omega)) (fun i ρ1 => ∃ a b, ρ1 = [.dat (basinD B), .dat (.list (fs.map frecD)), .dat (natD s), .dat (.int x), .dat (natD fs.length), .dat (siteD s (B.site s)), .dat (.int (heldOf B (recsOf fs) s)), .own ((List.range i).map g), a, b]) ⟨.any, .any, rfl⟩ ?_ ?_)
  · rintro i m ρ1 hm ⟨a, b, rfl⟩
    obtain ⟨rfl, hi⟩ := rng_at hm
    have hI : fs.length + m < (B.site s).infl.length := by rw [hB.ok.infl s hs]; omega
    refine ⟨_, by walk_at "gd", ?_⟩
    refine sd_seq (sd_asg (d := .int (if m = 0 then x else B.infl s (fs.length + m))) (ed_if (b := decide (m = 0)) (et_is (et_test (ed_op (ed_var rfl) (ed_var rfl) (rd_eqD (d := natD (fs.length + m)) (e := natD fs.length) rfl rfl))) ?_) (fun e => ?_) fun e => ?_) ?_)
    · rw [eqv_nat]
      exact decide_eq_decide.mpr (by omega)
    · rw [if_pos (of_decide_eq_true e)]
      exact ed_var rfl
    · rw [if_neg (of_decide_eq_false e)]
      exact ed_op (d := intsD (B.site s).infl) (by walk_at "ed") (ed_var rfl) (rd_ixT (at_ints hI))
    refine sd_app (d := g m) rfl (ed_op (ed_var rfl) (ed_callT (by walk_at "ed") rfl ⟨B, R, fs, s, fs.length + m, hB, hF, hs, rfl, rfl⟩) rd_add) rfl (by simp; omega) ⟨.dat (natD (fs.length + m)), .dat (.int (if m = 0 then x else B.infl s (fs.length + m))), ?_⟩
    rw [List.range_succ, List.map_append]
    rfl
  · rintro ρ1 ⟨a, b, rfl⟩
    refine sd_ret (ed_op (ed_slA (by walk_at "ed") eo_none (by walk_at "ed")) (ed_tupT (ea_cons (ed_var rfl) (ea_cons (ed_tupL (el_own rfl)) ea_nil)) (Nat.le_of_ble_eq_true rfl)) (rd_catT (by show 7 ≤ 100000; decide) (by intro h; cases h) (by intro h; cases h))) ?_
    simp only [List.length_range]
    unfold restSite siteD intsD
    rw [hlen]
    simp only [List.map_map]
    rfl
abbrev s_rest_of : Stmt := tp 48
theorem sc_rest_of : FnScope ["basin", "records", "inflows", "sites", "number", "inflow"] ["basin", "records", "inflows"] (defScope s_rest_of) := ⟨rfl, rfl, rfl, by decide +kernel, rfl, by decide +kernel, by decide +kernel⟩
def d_rest_of (ds : List PyData) (d : PyData) : Prop := ∃ B R fs xs, Bas B ∧ FsOk B R fs ∧ fs.length < B.M ∧ xs.length = B.n ∧ ds = [basinD B, .list (fs.map frecD), intsD xs] ∧ d = basinD (restB B (recsOf fs) fun s => xs.getD s 0)
theorem ok_rest_of {f : Addr} {fd : FuncData} (F : Fun K "rest_of" "rest_of" s_rest_of f fd) (T : Txt K mg CA CN CS)
    (G_rest_site : FnF P w K mg base 3 "rest_site" ["basin", "records", "number", "inflow"] (spD 4 d_rest_site)) : FnOk P w K mg base CX0 4 f fd ["basin", "records", "inflows"] (spD 3 d_rest_of) := by
  refine F.ok sc_rest_of (fun vs H Q E h => spD_len h) (fun cdv A outer s H vs Q E hr h => ?_)
  refine ⟨_, (pss_cons (ps_setLc (i := 3) (own := [("number", 4), ("inflow", 5)]) rfl sc_rest_of.nd rfl rfl (sw_true rfl rfl rfl (by decide +kernel)) (pi_enumT rfl T.b_enumerate (pa_cons (pv 2) pa_nil)) (blkOk_by (own := [("number", 4), ("inflow", 5)]) (N := ["basin", "records", "inflows", "sites", "number", "inflow"]) (sc := (defScope s_rest_of)) (by decide +kernel))
   (fun _ _ _ _ _ => (pg_tupK (n := 2) (K := K) rfl rfl (pgs_cons (pg_name (i := 4) sc_rest_of.nd rfl (Or.inl rfl)) (pgs_cons (pg_name (i := 5) sc_rest_of.nd rfl (Or.inl rfl)) pgs_nil))))
   (fun _ _ _ _ _ => pts_nil)
   (fun _ _ _ _ _ => (pe_fn G_rest_site (hr.mono (by decide)) rfl (pa_cons (pv 0) (pa_cons (pv 1) (pa_cons (pv 4) (pa_cons (pv 5) pa_nil)))))))
 (pss_one (ps_ret (pe_tup (pa_cons (pe_op op_sub (pe_ix (ix_tupK (K := K) rfl) (pv 0) pe_int (fun _ _ => rfl)) (pe_callB (call_lenK (K := K) rfl) rfl T.b_len PySem.boot_len (pa_cons (pv 1) pa_nil))) (pa_cons (pe_callTy (call_tupK (K := K) rfl) rfl T.b_tuple (by decide +kernel) (pa_cons (pv 3) pa_nil)) pa_nil)))))), ?_⟩
  refine sd_run h ?_
  rintro B0 B1 _ _ ⟨B, R, fs, xs, hB, hF, hlt, hl, rfl, rfl⟩
  have hn := hB.n
  have hM := hB.M
  have hlen : (recsOf fs).length = fs.length := by unfold recsOf; simp
  refine sd_seq (sd_asg (ed_lc1 (fun p => siteD p.1 (restSite B (recsOf fs) (fun _ => p.2) p.1)) (EdI.weak (ei_enumT (L := xs) (emb := PyData.int) (by walk_at "ed"))) (by simp; omega) ?_) ?_)
  · rintro i ⟨j, x⟩ hp
    obtain ⟨rfl, hx⟩ := enum_of hp
    have hj : j < B.n := by have := (List.getElem?_eq_some_iff.mp hx).1; omega
    exact ⟨_, by walk_at "gd", by walk_at "ed"; exact ⟨B, R, fs, j, x, hB, hF, hlt, hj, rfl, rfl⟩⟩
  · refine sd_ret (ed_tupT (ea_cons (ed_op (ed_op (ed_var rfl) ed_int (rd_ixT rfl)) (ed_lenLM (L := fs) (f := frecD) (el_ed (by walk_at "ed"))) rd_sub) (ea_cons (ed_tupL (el_ed (ed_var rfl))) ea_nil)) (Nat.le_of_ble_eq_true rfl)) ?_
    unfold basinD
    rw [rest_n]
    have e1 : ((B.M : Int) - (fs.length : Nat)) = ((restB B (recsOf fs) fun s => xs.getD s 0).M : Nat) := by
      rw [rest_M, hlen]
      omega
    have e2 : (((List.range xs.length).zip xs).map fun p => siteD p.1 (restSite B (recsOf fs) (fun _ => p.2) p.1)) = (List.range B.n).map fun k => siteD k ((restB B (recsOf fs) fun s => xs.getD s 0).site k) := by
      apply List.ext_getElem?
      intro i
      rw [List.getElem?_map, List.getElem?_map]
      by_cases hi : i < B.n
      · have hxi : xs[i]? = some xs[i] := List.getElem?_eq_getElem (by omega)
        have hz : ((List.range xs.length).zip xs)[i]? = some (i, xs[i]) := List.getElem?_zip_eq_some.mpr ⟨List.getElem?_range (by omega), hxi⟩
        rw [hz, List.getElem?_range hi]
        show some (siteD i (restSite B (recsOf fs) (fun _ => xs[i]) i)) = some (siteD i ((restB B (recsOf fs) fun s => xs.getD s 0).site i))
        rw [rest_site hi]
        congr 1
        congr 1
        unfold restSite
        have : xs.getD i 0 = xs[i] := by rw [List.getD_eq_getElem?_getD, hxi]; rfl
        simp only [this]
      · rw [List.getElem?_eq_none (by simp; omega), List.getElem?_eq_none (by simp; omega)]
        rfl
    show PyData.tuple [.int _, .tuple _] = _
    rw [e1, e2]
    rfl
abbrev s_rest_rights : Stmt := tp 49
theorem sc_rest_rights : FnScope ["rights", "begun", "name", "site", "demands"] ["rights", "begun"] (defScope s_rest_rights) := ⟨rfl, rfl, rfl, by decide +kernel, rfl, by decide +kernel, by decide +kernel⟩
def d_rest_rights (ds : List PyData) (d : PyData) : Prop := ∃ (B : Basin) (R : List Right) (k : Nat), Rts B R ∧ k ≤ B.M ∧ ds = [rightsD R, natD k] ∧ d = rightsD (restR R k)
theorem ok_rest_rights {f : Addr} {fd : FuncData} (F : Fun K "rest_rights" "rest_rights" s_rest_rights f fd) (T : Txt K mg CA CN CS)
     : FnOk P w K mg base CX0 1 f fd ["rights", "begun"] (spD 2 d_rest_rights) := by
  refine F.ok sc_rest_rights (fun vs H Q E h => spD_len h) (fun cdv A outer s H vs Q E hr h => ?_)
  refine ⟨_, (pss_one (ps_ret (pe_callTy (call_tupK (K := K) rfl) rfl T.b_tuple (by decide +kernel) (pa_cons (pe_lc  (own := [("name", 2), ("site", 3), ("demands", 4)]) rfl sc_rest_rights.nd (pi_tupK (K := K) rfl (pv 0)) (blkOk_by (own := [("name", 2), ("site", 3), ("demands", 4)]) (N := ["rights", "begun", "name", "site", "demands"]) (sc := (defScope s_rest_rights)) (by decide +kernel))
   (fun _ _ _ _ _ => (pg_tupK (n := 3) (K := K) rfl rfl (pgs_cons (pg_name (i := 2) sc_rest_rights.nd rfl (Or.inl rfl)) (pgs_cons (pg_name (i := 3) sc_rest_rights.nd rfl (Or.inl rfl)) (pgs_cons (pg_name (i := 4) sc_rest_rights.nd rfl (Or.inl rfl)) pgs_nil)))))
   (fun _ _ _ _ _ => pts_nil)
   (fun _ _ _ _ _ => (pe_tup (pa_cons (pv 2) (pa_cons (pv 3) (pa_cons (pe_slice (sl_tupK (K := K) rfl) (pv 4) (po_some (pv 1)) po_none) pa_nil)))))) pa_nil)))), ?_⟩
  refine sd_run h ?_
  rintro B0 B1 _ _ ⟨B, R, k, hR, hk, rfl, rfl⟩
  have hl := hR.len
  refine sd_ret (ed_tupL (el_ed (ed_lc1 (fun r => rightD r ⟨(rt R r).site, (rt R r).dem.drop k⟩) (EdI.weak (ei_tup (L := List.range R.length) (emb := fun r => rightD r (rt R r)) (by walk_at "ed"))) (by simp; omega) ?_))) ?_
  · rintro i r hx
    obtain ⟨rfl, hr⟩ := rng_at hx
    refine ⟨_, by walk_at "gd", ed_tupT (ea_cons (ed_var rfl) (ea_cons (ed_var rfl) (ea_cons (ed_is (ed_slA (ds := (rt R r).dem.map PyData.int) (by walk_at "ed") (eo_some (i := (k : Int)) (by walk_at "ed")) eo_none) ?_) ea_nil))) (Nat.le_of_ble_eq_true rfl)⟩
    have hd : k ≤ (rt R r).dem.length := by
      have h1 := hR.ok.len _ (rt_mem hr)
      omega
    unfold cutD intsD
    rw [HT.sIx_nat, HT.sIx_none, List.length_map, Nat.min_eq_left hd, List.take_of_length_le (by simp), List.map_drop]
  · unfold rightsD
    rw [restR_len]
    congr 1
    refine List.map_congr_left fun r hr => ?_
    rw [restR_rt (List.mem_range.mp hr)]
abbrev s_firsts : Stmt := tp 50
theorem sc_firsts : FnScope ["rows", "row"] ["rows"] (defScope s_firsts) := ⟨rfl, rfl, rfl, by decide +kernel, rfl, by decide +kernel, by decide +kernel⟩
def d_firsts (ds : List PyData) (d : PyData) : Prop := ∃ a p g, a ≤ 4 ∧ 0 < p ∧ ds = [rowsD a p g] ∧ d = intsD ((List.range a).map fun r => g r 0)
theorem ok_firsts {f : Addr} {fd : FuncData} (F : Fun K "firsts" "firsts" s_firsts f fd) (T : Txt K mg CA CN CS)
     : FnOk P w K mg base CX0 1 f fd ["rows"] (spD 1 d_firsts) := by
  refine F.ok sc_firsts (fun vs H Q E h => spD_len h) (fun cdv A outer s H vs Q E hr h => ?_)
  refine ⟨_, (pss_one (ps_ret (pe_callTy (call_tupK (K := K) rfl) rfl T.b_tuple (by decide +kernel) (pa_cons (pe_lc  (own := [("row", 1)]) rfl sc_firsts.nd (pi_tupK (K := K) rfl (pv 0)) (blkOk_by (own := [("row", 1)]) (N := ["rows", "row"]) (sc := (defScope s_firsts)) (by decide +kernel))
   (fun _ _ _ _ _ => (pg_name (i := 1) sc_firsts.nd rfl (Or.inl rfl)))
   (fun _ _ _ _ _ => pts_nil)
   (fun _ _ _ _ _ => (pe_ix (ix_tupK (K := K) rfl) (pv 1) pe_int (fun _ _ => rfl)))) pa_nil)))), ?_⟩
  refine sd_run h ?_
  rintro B0 B1 _ _ ⟨a, p, g, ha, hp, rfl, rfl⟩
  refine sd_ret (ed_tupL (el_ed (ed_lc1 (fun r => .int (g r 0)) (EdI.weak (ei_tup (L := List.range a) (emb := fun r => .tuple ((List.range p).map fun m => .int (g r m))) (by walk_at "ed"))) (by simp; omega) ?_))) ?_
  · rintro i r hx
    exact ⟨_, by walk_at "gd", ed_op (ed_var rfl) ed_int (rd_ixT (at_rng (k := 0) hp))⟩
  · unfold intsD
    rw [List.map_map]
    rfl
def numText (xs : List Int) : Str := Txt.join (" " : Str) (xs.map fun x => Str.ofString (toString x))
theorem dec_len {x : Int} (h0 : 0 ≤ x) (h1 : x ≤ 99) : (Str.ofString (toString x)).length ≤ 2 := by
  have : ∀ k : Fin 100, (Str.ofString (toString ((k.val : Nat) : Int))).length ≤ 2 := by decide +kernel
  obtain ⟨k, rfl⟩ : ∃ k : Nat, x = k := ⟨x.toNat, by omega⟩
  exact this ⟨k, by omega⟩
theorem num_sum {xs : List Int} (h : ∀ x ∈ xs, 0 ≤ x ∧ x ≤ 99) : ((xs.map fun x => Str.ofString (toString x)).map fun x => x.length).sum ≤ 2 * xs.length := by
  induction xs with
  | nil => exact Nat.le_refl _
  | cons a l ih =>
    have h1 := ih fun x hx => h x (List.mem_cons_of_mem _ hx)
    have h2 := dec_len (h a List.mem_cons_self).1 (h a List.mem_cons_self).2
    simp only [List.map_cons, List.sum_cons, List.length_cons]
    omega
abbrev s_numbers_text : Stmt := tp 30
theorem sc_numbers_text : FnScope ["numbers", "number"] ["numbers"] (defScope s_numbers_text) := ⟨rfl, rfl, rfl, by decide +kernel, rfl, by decide +kernel, by decide +kernel⟩
def d_numbers_text (ds : List PyData) (d : PyData) : Prop := ∃ xs, xs.length ≤ 4 ∧ (∀ x ∈ xs, 0 ≤ x ∧ x ≤ 99) ∧ ds = [intsD xs] ∧ d = .str (numText xs)
theorem ok_numbers_text {f : Addr} {fd : FuncData} (F : Fun K "numbers_text" "numbers_text" s_numbers_text f fd) (T : Txt K mg CA CN CS)
     : FnOk P w K mg base CX0 1 f fd ["numbers"] (spD 1 d_numbers_text) := by
  refine F.ok sc_numbers_text (fun vs H Q E h => spD_len h) (fun cdv A outer s H vs Q E hr h => ?_)
  refine ⟨_, (pss_one (ps_ret (pe_join pe_str (pe_lc  (own := [("number", 1)]) rfl sc_numbers_text.nd (pi_tupK (K := K) rfl (pv 0)) (blkOk_by (own := [("number", 1)]) (N := ["numbers", "number"]) (sc := (defScope s_numbers_text)) (by decide +kernel))
   (fun _ _ _ _ _ => (pg_name (i := 1) sc_numbers_text.nd rfl (Or.inl rfl)))
   (fun _ _ _ _ _ => pts_nil)
   (fun _ _ _ _ _ => (pe_callTy call_str_int rfl T.b_str (by decide +kernel) (pa_cons (pv 1) pa_nil))))))), ?_⟩
  refine sd_run h ?_
  rintro B0 B1 _ _ ⟨xs, hl, hx, rfl, rfl⟩
  have key : Ed B0 B1 _ _ _ := ed_lc1 (B0 := B0) (B := B1) (ρ := startR ["numbers", "number"] [intsD xs]) (te := tCB (fun xs H Q => ∃ i, xs = [V.int i] ∧ Nat.log2 (Int.natAbs i) < 1920 ∧ Q (V.str (Str.ofString (toString i))) H) (tCons (tVar 1) tNil)) (g := gName 1) (vs := [1]) (fun x => .str (Str.ofString (toString x))) (EdI.weak (ei_tup (K := K) (te := tVar 0) (L := xs) (emb := PyData.int) (by walk_at "ed"))) (by omega) (by
    intro i x hi
    obtain ⟨h0, h1⟩ := hx x (List.mem_of_getElem? hi)
    exact ⟨_, by walk_at "gd", ed_cb (by walk_at "ed") (rc_strI (Nat.lt_of_le_of_lt (Nat.log2_le_self _) (by omega)))⟩)
  intro H0 H σ E D n r
  refine ⟨⟨_, rfl⟩, key H0 H σ E _ fun v H1 H2 l hv => ?_⟩
  obtain ⟨a, vs, rfl, h1, h2⟩ := hv
  have e := DqAll.strs' (ns := xs.map fun x => Str.ofString (toString x)) (by rw [List.map_map]; exact h2)
  refine ⟨_, a, xs.map fun x => Str.ofString (toString x), rfl, rfl, .inl (SqL.of (by rw [← e]; exact l.w a _ h1)), ?_, r (.str (numText xs)) _ H1 H2 rfl (E.le.trans l) rfl⟩
  have := num_sum hx
  have h2 : (" " : Str).length = 1 := by decide
  rw [h2, List.length_map]
  omega
end HW
end
section
/-! HWF4: the law's own defs that make data of data. -/
namespace HW
open PySem PySem.Spec PyProof.Rows L2
local macro_rules | `(tactic| walk_at "ed") => `(tactic| repeat' (first
  | exact ed_int | exact ed_str | exact ed_bl | exact ed_non | exact ea_nil | exact eo_none
  | exact ed_var rfl
  | with_reducible apply ea_cons
  | with_reducible apply ed_op
  | with_reducible apply ed_un
  | with_reducible apply ed_tupT
  | with_reducible apply ed_lstT
  | with_reducible apply et_test
  | with_reducible apply et_B
  | with_reducible apply et_andC
  | with_reducible apply et_orC
  | with_reducible apply et_not
  | with_reducible apply eo_some
  | with_reducible apply ed_callT
  | exact rd_add | exact rd_sub | exact rd_lt | exact rd_le | exact rd_gt | exact rd_ge | exact rd_isN | exact rd_notN | exact ru_neg
  | exact rd_ixT rfl
  | exact rd_ixT (at_rng (by assumption))
  | exact rd_ixT (at_ints (by assumption))
  | exact rd_ixT (at_pred (by assumption))
  | (show List.length _ = _; exact rfl)
  | (show List.length _ ≤ 100000; exact Nat.le_of_ble_eq_true rfl)
  | apply ed_tupT))
local macro_rules | `(tactic| walk_at "gd") => `(tactic| repeat' (first | exact gd_name (by decide) | exact gs_nil | with_reducible apply gs_cons | refine' gd_tup ?_ rfl))
variable {P : Program} {w : World} {K : PySem.W.Frag} {mg : Str → Option Value} {base : Heap} {CA CN CS : Addr}
def listD (ns : List Int) : PyData := .list (ns.map PyData.int)
theorem ifT {b : Bool} {p q : Prop} (h : b = true) (k : p) : if b = true then p else q := by rw [if_pos h]; exact k
theorem ifF {b : Bool} {p q : Prop} (h : b = false) (k : q) : if b = true then p else q := by rw [if_neg (by rw [h]; decide)]; exact k
theorem sql_mono {K : PySem.W.Frag} {H H' : Hp} {a : Addr} {xs : List V} (e : Ex H H') (h : SqL K H a xs) : SqL K H' a xs := h.imp (fun r => r.imp (e _ _) fun z => z.imp fun o z => e _ _ z) id
/-- the script's cell at a place; the script may be frozen -/
def spCell (K : PySem.W.Frag) : Sp := fun vs H Q _ => ∃ (a : Addr) (ns : List Int) (k : Nat), vs = [.ref a, .int k] ∧ SqL K H a (ns.map V.int) ∧ Q (.int (ns.getD k 0)) H
abbrev s__law_cell : Stmt := tp 53
theorem sc__law_cell : FnScope ["_law_script", "_law_k"] ["_law_script", "_law_k"] (defScope s__law_cell) := ⟨rfl, rfl, rfl, by decide +kernel, rfl, by decide +kernel, by decide +kernel⟩
theorem ok__law_cell {f : Addr} {fd : FuncData} (F : Fun K "_law_cell" "_law_cell" s__law_cell f fd) (T : Txt K mg CA CN CS)
     : FnOk P w K mg base CX0 1 f fd ["_law_script", "_law_k"] (spCell K) := by
  refine F.ok sc__law_cell (fun vs H Q E h => ?_) (fun cdv A outer s H vs Q E hr h => ?_)
  · obtain ⟨_, _, _, rfl, _⟩ := h; rfl
  refine ⟨_, (pss_cons (ps_if (pt_cmpR op_lt (pv 1) (pe_callB (call_lenK (K := K) rfl) rfl T.b_len PySem.boot_len (pa_cons (pv 0) pa_nil)) (nomark _))
  (pss_one (ps_ret (pe_ix (ix_lisK (K := K) rfl) (pv 0) (pv 1) (fun _ _ => rfl))))
  pss_nil)
 (pss_one (ps_ret pe_int))), ?_⟩
  obtain ⟨a, ns, k, rfl, hS, q⟩ := h
  refine ⟨_, rfl, _, rfl, .ref a, (ns.map V.int).length, rfl, .inl ⟨ns.map V.int, hS, rfl⟩, (k : Int), _, rfl, rfl, _, rfl, ?_⟩
  by_cases hlt : (k : Int) < ((ns.map V.int).length : Int)
  · refine ifT (decide_eq_true hlt) ?_
    rw [List.length_map] at hlt
    have hk : k < ns.length := by omega
    exact ⟨_, rfl, _, rfl, a, ns.map V.int, (k : Int), .int (ns.getD k 0), rfl, rfl, hS, at_map (by rw [List.getD_eq_getElem?_getD, List.getElem?_eq_getElem hk]; rfl), q⟩
  · refine ifF (decide_eq_false hlt) ?_
    rw [List.length_map] at hlt
    have e : ns.getD k 0 = 0 := by
      rw [List.getD_eq_getElem?_getD, List.getElem?_eq_none (by omega)]
      rfl
    rw [e] at q
    exact q
theorem ed_cell {B0 B : Hp} {ρ : Rho} {te : TE} {K : PySem.W.Frag} {a : Addr} {ns : List Int} {i k : Nat} {E : XK} (hS : SqL K B a (ns.map V.int)) (h : ρ[i]? = some (.raw (.ref a))) (hk : Ed B0 B te ρ (natD k)) : Ed B0 B (tCall (spCell K) [] E (tCons (tVar i) (tCons te tNil))) ρ (.int (ns.getD k 0)) := fun H0 H σ Ek Q q => by
  obtain ⟨x, hx, e⟩ := Ek.env.get h
  have e : x = some (V.ref a) := e
  subst e
  refine ⟨_, hx, hk H0 H σ Ek _ fun v H1 H2 l hv => ?_⟩
  cases (show v = V.int k from hv)
  show spCell K ([.ref a, .int k] ++ []) H2 Q E
  exact ⟨a, ns, k, rfl, sql_mono (Ek.le.t.trans l.t) hS, q _ H1 H2 l rfl⟩
theorem ed_indexNm {B0 B : Hp} {ρ : Rho} {te tx : TE} {n s : Nat} {K K' : PySem.W.Frag} (h : Ed B0 B te ρ (.list ((List.range n).map fun k => .str (nm k)))) (hx : Ed B0 B tx ρ (.str (nm s))) (hs : s < n) : Ed B0 B (tBM K "list" (rIndex K') te (tCons tx tNil)) ρ (natD s) := fun H0 H σ E Q q =>
  h H0 H σ E _ fun v H1 H2 l hv => by
    obtain ⟨a, vs, rfl, h1, h2⟩ := hv
    have e : vs = ((List.range n).map nm).map V.str := DqAll.strs' (by rw [List.map_map]; exact h2)
    subst e
    refine ⟨.inl ⟨rfl, _, SqL.of (l.w a _ h1)⟩, hx H1 H2 σ (E.leE l) _ fun u H3 H4 l2 hu => ?_⟩
    cases (show u = V.str (nm s) from hu)
    refine ⟨a, _, _, s, .str (nm s), rfl, rfl, SqL.of (l2.t a _ (l.w a _ h1)), rfl, by simp [flatV], ?_, ?_, ?_, q _ H3 H4 (l.trans l2) rfl⟩
    · rw [List.getElem?_map, List.getElem?_map, List.getElem?_range hs]
      rfl
    · show (nm s == nm s) = true
      exact beq_self_eq_true _
    · intro m z' hm hz
      rw [List.getElem?_map, List.getElem?_map, List.getElem?_range (by omega)] at hz
      cases hz
      show (nm m == nm s) = false
      rw [beq_eq_false_iff_ne]
      intro e
      have := nm_inj e
      omega
abbrev s__law_place : Stmt := tp 59
theorem sc__law_place : FnScope ["_law_basin_here", "_law_name", "_law_site"] ["_law_basin_here", "_law_name"] (defScope s__law_place) := ⟨rfl, rfl, rfl, by decide +kernel, rfl, by decide +kernel, by decide +kernel⟩
def d__law_place (ds : List PyData) (d : PyData) : Prop := ∃ B s, Bas B ∧ s < B.n ∧ ds = [basinD B, .str (nm s)] ∧ d = natD s
theorem ok__law_place {f : Addr} {fd : FuncData} (F : Fun K "_law_place" "_law_place" s__law_place f fd) (T : Txt K mg CA CN CS)
     : FnOk P w K mg base CX0 1 f fd ["_law_basin_here", "_law_name"] (spD 2 d__law_place) := by
  refine F.ok sc__law_place (fun vs H Q E h => spD_len h) (fun cdv A outer s H vs Q E hr h => ?_)
  refine ⟨_, (pss_one (ps_ret (pe_bm PySem.F.plainAttrs_list PySem.F.slot_list_index PySem.F.type_list_index mt_index (pe_lc  (own := [("_law_site", 2)]) rfl sc__law_place.nd (pi_tupK (K := K) rfl (pe_ix (ix_tupK (K := K) rfl) (pv 0) pe_int (fun _ _ => rfl))) (blkOk_by (own := [("_law_site", 2)]) (N := ["_law_basin_here", "_law_name", "_law_site"]) (sc := (defScope s__law_place)) (by decide +kernel))
   (fun _ _ _ _ _ => (pg_name (i := 2) sc__law_place.nd rfl (Or.inl rfl)))
   (fun _ _ _ _ _ => pts_nil)
   (fun _ _ _ _ _ => (pe_ix (ix_tupK (K := K) rfl) (pv 2) pe_int (fun _ _ => rfl)))) (pa_cons (pv 1) pa_nil)))), ?_⟩
  refine sd_run h ?_
  rintro B0 B1 _ _ ⟨B, s, hB, hs, rfl, rfl⟩
  have hn := hB.n
  refine sd_ret (ed_indexNm (n := B.n) (ed_lc1 (fun k => .str (nm k)) (EdI.weak (ei_tup (L := List.range B.n) (emb := fun k => siteD k (B.site k)) (by walk_at "ed"))) (by simp; omega) ?_) (by walk_at "ed") hs) rfl
  intro i k hk
  exact ⟨_, by walk_at "gd", by walk_at "ed"⟩
abbrev s__law_cells : Stmt := tp 60
theorem sc__law_cells : FnScope ["_law_basin_here", "_law_found", "_law_m", "_law_k"] ["_law_basin_here"] (defScope s__law_cells) := ⟨rfl, rfl, rfl, by decide +kernel, rfl, by decide +kernel, by decide +kernel⟩
def d__law_cells (ds : List PyData) (d : PyData) : Prop := ∃ B, Bas B ∧ ds = [basinD B] ∧ d = .list (B.cells.map cellD)
theorem ok__law_cells {f : Addr} {fd : FuncData} (F : Fun K "_law_cells" "_law_cells" s__law_cells f fd) (T : Txt K mg CA CN CS)
     : FnOk P w K mg base CX0 1 f fd ["_law_basin_here"] (spD 1 d__law_cells) := by
  refine F.ok sc__law_cells (fun vs H Q E h => spD_len h) (fun cdv A outer s H vs Q E hr h => ?_)
  refine ⟨_, (pss_cons (ps_set (i := 1) sc__law_cells.nd rfl (Or.inl rfl) (pe_lst pa_nil))
 (pss_cons (ps_for PassesOwn.never rfl (pi_range1 rfl T.b_range (pa_cons (pe_ix (ix_tupK (K := K) rfl) (pv 0) pe_int (fun _ _ => rfl)) pa_nil)) (pg_name (i := 2) sc__law_cells.nd rfl (Or.inr rfl))
  (pss_one (ps_set (i := 1) sc__law_cells.nd rfl (Or.inl rfl) (pe_op op_cat (pv 1) (pe_lc  (own := [("_law_k", 3)]) rfl sc__law_cells.nd (pi_range1 rfl T.b_range (pa_cons (pe_callB (call_lenK (K := K) rfl) rfl T.b_len PySem.boot_len (pa_cons (pe_ix (ix_tupK (K := K) rfl) (pv 0) pe_int (fun _ _ => rfl)) pa_nil)) pa_nil)) (blkOk_by (own := [("_law_k", 3)]) (N := ["_law_basin_here", "_law_found", "_law_m", "_law_k"]) (sc := (defScope s__law_cells)) (by decide +kernel))
   (fun _ _ _ _ _ => (pg_name (i := 3) sc__law_cells.nd rfl (Or.inl rfl)))
   (fun _ _ _ _ _ => pts_nil)
   (fun _ _ _ _ _ => (pe_tup (pa_cons (pv 3) (pa_cons (pv 2) pa_nil)))))))))
 (pss_one (ps_ret (pv 1))))), ?_⟩
  refine sd_run h ?_
  rintro B0 B1 _ _ ⟨B, hB, rfl, rfl⟩
  have hn := hB.n
  have hM := hB.M
  let F : Nat → List PyData := fun i => (List.range i).flatMap fun m => (List.range B.n).map fun s => cellD (s, m)
  have lenF : ∀ i, (F i).length = i * B.n := fun i => flat_len B.n (fun m s => cellD (s, m)) i
  refine sd_seq (sd_asg (d := .list (F 0)) (by walk_at "ed") ?_)
  refine sd_seq (sd_for (ei_rng1 (n := B.M) (by walk_at "ed") (by omega)) (fun i ρ1 => ∃ a b, ρ1 = [.dat (basinD B), .dat (.list (F i)), a, b]) ⟨_, _, rfl⟩ ?_ ?_)
  · rintro i m ρ1 hm ⟨a, b, rfl⟩
    obtain ⟨rfl, hm⟩ := rng_at hm
    refine ⟨_, by walk_at "gd", sd_asg (d := .list (F (m + 1))) (ed_is (ed_op (ed_var rfl) (ed_lc1 (fun s => cellD (s, m)) (EdI.weak (ei_rng1 (n := B.n) (ea_cons (ed_lenR (by walk_at "ed")) ea_nil) (by omega))) (by simp; omega) ?_) (rd_cat ?_)) ?_) ⟨_, _, rfl⟩⟩
    · intro j s hs
      exact ⟨_, by walk_at "gd", by walk_at "ed"⟩
    · rw [lenF, List.length_map, List.length_range]
      have := Nat.mul_le_mul (Nat.le_of_lt (Nat.lt_of_lt_of_le hm hM)) hn
      omega
    · show PyData.list (F m ++ _) = .list (F (m + 1))
      simp only [F, List.range_succ, List.flatMap_append, List.flatMap_cons, List.flatMap_nil, List.append_nil]
  · rintro ρ1 ⟨a, b, rfl⟩
    refine sd_ret (ed_var rfl) ?_
    rw [cells_map, List.length_range]
def claim3D (B : Basin) (R : List Right) (c : Claim) : PyData := .tuple [claimD c, cellD (c.cell B R), .int (c.size B R)]
abbrev s__law_claims : Stmt := tp 61
theorem sc__law_claims : FnScope ["_law_basin_here", "_law_rights_here", "_law_found", "_law_r", "_law_place_here", "_law_m", "_law_k"] ["_law_basin_here", "_law_rights_here"] (defScope s__law_claims) := ⟨rfl, rfl, rfl, by decide +kernel, rfl, by decide +kernel, by decide +kernel⟩
def d__law_claims (ds : List PyData) (d : PyData) : Prop := ∃ B R, Bas B ∧ Rts B R ∧ ds = [basinD B, rightsD R] ∧ d = .list ((claimL B R).map (claim3D B R))
theorem ok__law_claims {f : Addr} {fd : FuncData} (F : Fun K "_law_claims" "_law_claims" s__law_claims f fd) (T : Txt K mg CA CN CS)
    (G__law_place : FnF P w K mg base 1 "_law_place" ["_law_basin_here", "_law_name"] (spD 2 d__law_place)) : FnOk P w K mg base CX0 2 f fd ["_law_basin_here", "_law_rights_here"] (spD 2 d__law_claims) := by
  refine F.ok sc__law_claims (fun vs H Q E h => spD_len h) (fun cdv A outer s H vs Q E hr h => ?_)
  refine ⟨_, (pss_cons (ps_set (i := 2) sc__law_claims.nd rfl (Or.inl rfl) (pe_lst pa_nil))
 (pss_cons (ps_for PassesOwn.never rfl (pi_range1 rfl T.b_range (pa_cons (pe_callB (call_lenK (K := K) rfl) rfl T.b_len PySem.boot_len (pa_cons (pv 1) pa_nil)) pa_nil)) (pg_name (i := 3) sc__law_claims.nd rfl (Or.inr rfl))
  (pss_cons (ps_set (i := 4) sc__law_claims.nd rfl (Or.inr rfl) (pe_fn G__law_place (hr.mono (by decide)) rfl (pa_cons (pv 0) (pa_cons (pe_ix (ix_tupK (K := K) rfl) (pe_ix (ix_tupK (K := K) rfl) (pv 1) (pv 3) (fun _ _ => rfl)) pe_int (fun _ _ => rfl)) pa_nil))))
 (pss_one (ps_set (i := 2) sc__law_claims.nd rfl (Or.inl rfl) (pe_op op_cat (pv 2) (pe_lc  (own := [("_law_m", 5)]) rfl sc__law_claims.nd (pi_range1 rfl T.b_range (pa_cons (pe_ix (ix_tupK (K := K) rfl) (pv 0) pe_int (fun _ _ => rfl)) pa_nil)) (blkOk_by (own := [("_law_m", 5)]) (N := ["_law_basin_here", "_law_rights_here", "_law_found", "_law_r", "_law_place_here", "_law_m", "_law_k"]) (sc := (defScope s__law_claims)) (by decide +kernel))
   (fun _ _ _ _ _ => (pg_name (i := 5) sc__law_claims.nd rfl (Or.inl rfl)))
   (fun _ _ _ _ _ => pts_nil)
   (fun _ _ _ _ _ => (pe_tup (pa_cons (pe_tup (pa_cons pe_str (pa_cons (pv 3) (pa_cons (pv 5) pa_nil)))) (pa_cons (pe_tup (pa_cons (pv 4) (pa_cons (pv 5) pa_nil))) (pa_cons (pe_ix (ix_tupK (K := K) rfl) (pe_ix (ix_tupK (K := K) rfl) (pe_ix (ix_tupK (K := K) rfl) (pv 1) (pv 3) (fun _ _ => rfl)) pe_int (fun _ _ => rfl)) (pv 5) (fun _ _ => rfl)) pa_nil)))))))))))
 (pss_one (ps_ret (pe_op op_cat (pv 2) (pe_lc  (own := [("_law_k", 6)]) rfl sc__law_claims.nd (pi_range1 rfl T.b_range (pa_cons (pe_callB (call_lenK (K := K) rfl) rfl T.b_len PySem.boot_len (pa_cons (pe_ix (ix_tupK (K := K) rfl) (pv 0) pe_int (fun _ _ => rfl)) pa_nil)) pa_nil)) (blkOk_by (own := [("_law_k", 6)]) (N := ["_law_basin_here", "_law_rights_here", "_law_found", "_law_r", "_law_place_here", "_law_m", "_law_k"]) (sc := (defScope s__law_claims)) (by decide +kernel))
   (fun _ _ _ _ _ => (pg_name (i := 6) sc__law_claims.nd rfl (Or.inl rfl)))
   (fun _ _ _ _ _ => pts_nil)
   (fun _ _ _ _ _ => (pe_tup (pa_cons (pe_tup (pa_cons pe_str (pa_cons (pv 6) pa_nil))) (pa_cons (pe_tup (pa_cons (pv 6) (pa_cons (pe_op op_sub (pe_ix (ix_tupK (K := K) rfl) (pv 0) pe_int (fun _ _ => rfl)) pe_int) pa_nil))) (pa_cons (pe_ix (ix_tupK (K := K) rfl) (pe_ix (ix_tupK (K := K) rfl) (pe_ix (ix_tupK (K := K) rfl) (pv 0) pe_int (fun _ _ => rfl)) (pv 6) (fun _ _ => rfl)) pe_int (fun _ _ => rfl)) pa_nil))))))))))), ?_⟩
  refine sd_run h ?_
  rintro B0 B1 _ _ ⟨B, R, hB, hR, rfl, rfl⟩
  have hn := hB.n
  have hM := hB.M
  have hM0 := hB.M0
  have hl := hR.len
  let F : Nat → List PyData := fun i => (List.range i).flatMap fun r => (List.range B.M).map fun m => claim3D B R (.right r m)
  have lenF : ∀ i, (F i).length = i * B.M := fun i => flat_len B.M (fun r m => claim3D B R (.right r m)) i
  have e1 : (claimL B R).map (claim3D B R) = F R.length ++ (List.range B.n).map fun s => claim3D B R (.room s) := parts_map _
  refine sd_seq (sd_asg (d := .list (F 0)) (by walk_at "ed") ?_)
  refine sd_seq (sd_for (ei_rng1 (n := R.length) (ea_cons (ed_lenR (by walk_at "ed")) ea_nil) (by omega)) (fun i ρ1 => ∃ a b c d, ρ1 = [.dat (basinD B), .dat (rightsD R), .dat (.list (F i)), a, b, c, d]) ⟨_, _, _, _, rfl⟩ ?_ ?_)
  · rintro i r ρ1 hr ⟨a, b, c, d, rfl⟩
    obtain ⟨rfl, hr⟩ := rng_at hr
    have hs := hR.ok.site _ (rt_mem hr)
    have hd := hR.ok.len _ (rt_mem hr)
    refine ⟨_, by walk_at "gd", ?_⟩
    refine sd_seq (sd_asg (d := natD (rt R r).site) (by walk_at "ed"; exact ⟨B, _, hB, hs, rfl, rfl⟩) ?_)
    refine sd_asg (d := .list (F (r + 1))) (ed_is (ed_op (ed_var rfl) (ed_lc1 (fun m => claim3D B R (.right r m)) (EdI.weak (ei_rng1 (n := B.M) (by walk_at "ed") (by omega))) (by simp; omega) ?_) (rd_cat ?_)) ?_) ⟨_, _, _, _, rfl⟩
    · intro j m hm
      obtain ⟨rfl, hm⟩ := rng_at hm
      have hm' : m < (rt R r).dem.length := by omega
      exact ⟨_, by walk_at "gd", by walk_at "ed"⟩
    · rw [lenF, List.length_map, List.length_range]
      have := Nat.mul_le_mul (Nat.le_of_lt (Nat.lt_of_lt_of_le hr hl)) hM
      omega
    · show PyData.list (F r ++ _) = .list (F (r + 1))
      simp only [F, List.range_succ, List.flatMap_append, List.flatMap_cons, List.flatMap_nil, List.append_nil]
  · rintro ρ1 ⟨a, b, c, d, rfl⟩
    rw [List.length_range, e1]
    refine sd_ret (ed_op (ed_var rfl) (ed_lc1 (fun s => claim3D B R (.room s)) (EdI.weak (ei_rng1 (n := B.n) (ea_cons (ed_lenR (by walk_at "ed")) ea_nil) (by omega))) (by simp; omega) ?_) (rd_cat ?_)) rfl
    · intro j s hs
      obtain ⟨rfl, hs⟩ := rng_at hs
      refine ⟨_, by walk_at "gd", ed_is (d := .tuple [claimD (.room s), .tuple [natD s, .int ((B.M : Int) - 1)], .int (B.site s).room]) (by walk_at "ed") ?_⟩
      show PyData.tuple [_, .tuple [natD s, .int ((B.M : Int) - 1)], _] = PyData.tuple [_, .tuple [natD s, natD (B.M - 1)], _]
      rw [show ((B.M : Int) - 1) = ((B.M - 1 : Nat) : Int) by omega]
      rfl
    · rw [lenF, List.length_map, List.length_range]
      have := Nat.mul_le_mul hl hM
      omega
theorem eqv_nxt {o : Option Nat} {k : Nat} : PyData.eqv (nxtD o) (.str (nm k)) = decide (o = some k) := by
  cases o with
  | none => rfl
  | some j =>
    show PyData.eqv (.str (nm j)) (.str (nm k)) = _
    rw [eqv_str]
    exact decide_eq_decide.mpr ⟨fun e => by rw [nm_inj e], fun e => by cases e; rfl⟩
theorem shp_nxt {o : Option Nat} (h : ∀ k, o = some k → k < 100) : SeqAt.shaped (nxtD o) = true := by
  cases o with
  | none => rfl
  | some j => exact shp_nm (h j rfl)
theorem nxt_100 {B : Basin} (hB : Bas B) {j : Nat} (hj : j < B.n) : ∀ k, (B.site j).nxt = some k → k < 100 := fun k e => by
  have := (hB.ok.nxt j k hj e).2
  have := hB.n
  omega
abbrev s__law_receives : Stmt := tp 65
theorem sc__law_receives : FnScope ["_law_basin_here", "_law_plan", "_law_k", "_law_m", "_law_site", "_law_total", "_law_j", "_law_other"] ["_law_basin_here", "_law_plan", "_law_k", "_law_m"] (defScope s__law_receives) := ⟨rfl, rfl, rfl, by decide +kernel, rfl, by decide +kernel, by decide +kernel⟩
def d__law_receives (ds : List PyData) (d : PyData) : Prop := ∃ B R dl rel sto s m, Bas B ∧ s < B.n ∧ m < B.M ∧ ds = [basinD B, planD B R dl rel sto, natD s, natD m] ∧ d = .int (B.recv rel sto s m)
theorem ok__law_receives {f : Addr} {fd : FuncData} (F : Fun K "_law_receives" "_law_receives" s__law_receives f fd) (T : Txt K mg CA CN CS)
     : FnOk P w K mg base CX0 1 f fd ["_law_basin_here", "_law_plan", "_law_k", "_law_m"] (spD 4 d__law_receives) := by
  refine F.ok sc__law_receives (fun vs H Q E h => spD_len h) (fun cdv A outer s H vs Q E hr h => ?_)
  refine ⟨_, (pss_cons (ps_set (i := 4) sc__law_receives.nd rfl (Or.inl rfl) (pe_ix (ix_tupK (K := K) rfl) (pe_ix (ix_tupK (K := K) rfl) (pv 0) pe_int (fun _ _ => rfl)) (pv 2) (fun _ _ => rfl)))
 (pss_cons (ps_set (i := 5) sc__law_receives.nd rfl (Or.inl rfl) (pe_op op_add (pe_ix (ix_tupK (K := K) rfl) (pe_ix (ix_tupK (K := K) rfl) (pv 4) pe_int (fun _ _ => rfl)) (pv 3) (fun _ _ => rfl)) (pe_ix (ix_lisK (K := K) rfl) (pe_lst (pa_cons (pe_ix (ix_tupK (K := K) rfl) (pv 4) pe_int (fun _ _ => rfl)) (pa_cons (pe_ix (ix_tupK (K := K) rfl) (pe_ix (ix_tupK (K := K) rfl) (pe_ix (ix_tupK (K := K) rfl) (pv 1) pe_int (fun _ _ => rfl)) (pv 2) (fun _ _ => rfl)) (pe_op op_sub (pv 3) pe_int) (fun _ _ => rfl)) pa_nil))) (pe_callTy call_int1 rfl T.b_int (by decide +kernel) (pa_cons (pe_cmpR op_gt (pv 3) pe_int (nomark _)) pa_nil)) (fun _ _ => rfl))))
 (pss_cons (ps_for PassesOwn.never rfl (pi_range1 rfl T.b_range (pa_cons (pv 2) pa_nil)) (pg_name (i := 6) sc__law_receives.nd rfl (Or.inl rfl))
  (pss_cons (ps_set (i := 7) sc__law_receives.nd rfl (Or.inl rfl) (pe_ix (ix_tupK (K := K) rfl) (pe_ix (ix_tupK (K := K) rfl) (pv 0) pe_int (fun _ _ => rfl)) (pv 6) (fun _ _ => rfl)))
 (pss_one (ps_if (PW.pt (pw_and (pt_cmpR (op_eqK (K := K) rfl hr.units) (pe_ix (ix_tupK (K := K) rfl) (pv 7) pe_int (fun _ _ => rfl)) (pe_ix (ix_tupK (K := K) rfl) (pv 4) pe_int (fun _ _ => rfl)) (nomark _)) (pw_and1 (pt_cmpR op_ge (pv 3) (pe_ix (ix_tupK (K := K) rfl) (pv 7) pe_int (fun _ _ => rfl)) (nomark _)))))
  (pss_one (ps_set (i := 5) sc__law_receives.nd rfl (Or.inl rfl) (pe_op op_add (pv 5) (pe_ix (ix_tupK (K := K) rfl) (pe_ix (ix_tupK (K := K) rfl) (pe_ix (ix_tupK (K := K) rfl) (pv 1) pe_int (fun _ _ => rfl)) (pv 6) (fun _ _ => rfl)) (pe_op op_sub (pv 3) (pe_ix (ix_tupK (K := K) rfl) (pv 7) pe_int (fun _ _ => rfl))) (fun _ _ => rfl)))))
  pss_nil))))
 (pss_one (ps_ret (pv 5)))))), ?_⟩
  refine sd_run h ?_
  rintro B0 B1 _ _ ⟨B, R, dl, rel, sto, s, m, hB, hs, hm, rfl, rfl⟩
  have hn := hB.n
  have hI : m < (B.site s).infl.length := by rw [hB.ok.infl s hs]; exact hm
  have hprev : ∃ z, atI ((List.range B.M).map fun m => PyData.int (sto s m)) ((m : Int) - 1) = some (.int z) ∧ (m ≠ 0 → z = sto s (m - 1)) := by
    cases m with
    | zero => 
      refine ⟨sto s (B.M - 1), at_last (k := B.M - 1) (by rw [List.length_map, List.length_range]; omega) (by rw [List.getElem?_map, List.getElem?_range (by omega)]; rfl), fun h => absurd rfl h⟩
    | succ m => exact ⟨sto s m, at_pred (by omega), fun _ => rfl⟩
  obtain ⟨z, hz, hz2⟩ := hprev
  refine sd_seq (sd_asg (by walk_at "ed") ?_)
  refine sd_seq (sd_asg (d := .int (B.supply s m + (if m = 0 then 0 else sto s (m - 1)))) (ed_is (ed_op (d := .int (B.infl s m)) (by walk_at "ed") (ed_op (e := .int (if decide (0 < (m : Int)) = true then 1 else 0)) (d := .list [.int (B.site s).held, .int z]) (ed_lstT (ea_cons (by walk_at "ed") (ea_cons (ed_op (d := .tuple ((List.range B.M).map fun m => .int (sto s m))) (by walk_at "ed") (by walk_at "ed") (rd_ixT hz)) ea_nil)) (Nat.le_of_ble_eq_true rfl)) (ed_cb (ea_cons (by walk_at "ed") ea_nil) rc_intB) (rd_ixL (d := .int (if m = 0 then (B.site s).held else z)) ?_)) rd_add) ?_) ?_)
  · cases m with
    | zero => rfl
    | succ m =>
      rw [decide_eq_true (by omega)]
      rfl
  · unfold Basin.supply
    by_cases h : m = 0
    · rw [if_pos h, if_pos h, if_pos h, Int.add_zero]
    · rw [if_neg h, if_neg h, if_neg h, hz2 h, Int.add_zero]
  let g : Nat → Int := fun j => if (B.site j).nxt = some s ∧ (B.site j).tr ≤ m then rel j (m - (B.site j).tr) else 0
  refine sd_seq (sd_for (ei_rng1 (n := s) (by walk_at "ed") (by omega)) (fun i ρ1 => ∃ x y, ρ1 = [.dat (basinD B), .dat (planD B R dl rel sto), .dat (natD s), .dat (natD m), .dat (siteD s (B.site s)), .dat (.int (B.supply s m + (if m = 0 then 0 else sto s (m - 1)) + sumL (List.range i) g)), x, y]) ⟨.any, .any, by rw [List.range_zero, sumL_nil, Int.add_zero]; rfl⟩ ?_ ?_)
  · rintro i j ρ1 hj ⟨x, y, rfl⟩
    obtain ⟨rfl, hj⟩ := rng_at hj
    have hj' : j < B.n := by omega
    refine ⟨_, by walk_at "gd", ?_⟩
    refine sd_seq (sd_asg (by walk_at "ed") ?_)
    refine sd_if (b := decide ((B.site j).nxt = some s) && decide ((B.site j).tr ≤ m)) (et_andC (et_is (by walk_at "ed"; exact rd_eqD (shp_nxt (nxt_100 hB hj')) (shp_nm (by omega))) eqv_nxt) (et_is (by walk_at "ed") (decide_eq_decide.mpr Int.ofNat_le))) (fun e => ?_) fun e => sd_next ⟨.dat (natD j), .dat (siteD j (B.site j)), ?_⟩
    · simp only [Bool.and_eq_true, decide_eq_true_eq] at e
      have hq : m - (B.site j).tr < B.M := by omega
      refine sd_asg (d := .int (B.supply s m + (if m = 0 then 0 else sto s (m - 1)) + sumL (List.range (j + 1)) g)) (ed_is (ed_op (e := .int (rel j (m - (B.site j).tr))) (ed_var rfl) (ed_op (d := .tuple ((List.range B.M).map fun m => .int (rel j m))) (by walk_at "ed") (by walk_at "ed") (rd_ixT (at_int (k := m - (B.site j).tr) (by omega) (by rw [List.getElem?_map, List.getElem?_range hq]; rfl)))) rd_add) ?_) ⟨.dat (natD j), .dat (siteD j (B.site j)), rfl⟩
      rw [sumR_succ, ← Int.add_assoc]
      simp only [g, if_pos e]
    · have e' : ¬ ((B.site j).nxt = some s ∧ (B.site j).tr ≤ m) := by
        intro h
        rw [decide_eq_true h.1, decide_eq_true h.2] at e
        cases e
      rw [sumR_succ]
      simp only [g, if_neg e', Int.add_zero]
      rfl
  · rintro ρ1 ⟨x, y, rfl⟩
    refine sd_ret (ed_var rfl) ?_
    rw [List.length_range]
    unfold Basin.recv Basin.down
    rw [sum_upto (Nat.le_of_lt hs) g fun j h1 h2 => if_neg fun h => by
      have := (hB.ok.nxt j s h2 h.1).1
      omega]
abbrev s__law_plan_fault : Stmt := tp 66
theorem sc__law_plan_fault : FnScope ["_law_basin_here", "_law_rights_here", "_law_plan", "_law_m", "_law_r", "_law_k", "_law_site", "_law_used"] ["_law_basin_here", "_law_rights_here", "_law_plan"] (defScope s__law_plan_fault) := ⟨rfl, rfl, rfl, by decide +kernel, rfl, by decide +kernel, by decide +kernel⟩
def d__law_plan_fault (ds : List PyData) (d : PyData) : Prop := ∃ B R dl rel sto, Bas B ∧ Rts B R ∧ (∀ m, m < B.M → MonthOk B R dl rel sto m) ∧ ds = [basinD B, rightsD R, planD B R dl rel sto] ∧ d = .none
theorem ok__law_plan_fault {f : Addr} {fd : FuncData} (F : Fun K "_law_plan_fault" "_law_plan_fault" s__law_plan_fault f fd) (T : Txt K mg CA CN CS)
    (G__law_receives : FnF P w K mg base 1 "_law_receives" ["_law_basin_here", "_law_plan", "_law_k", "_law_m"] (spD 4 d__law_receives)) : FnOk P w K mg base CX0 2 f fd ["_law_basin_here", "_law_rights_here", "_law_plan"] (spD 3 d__law_plan_fault) := by
  refine F.ok sc__law_plan_fault (fun vs H Q E h => spD_len h) (fun cdv A outer s H vs Q E hr h => ?_)
  refine ⟨_, (pss_cons (ps_for PassesOwn.never rfl (pi_range1 rfl T.b_range (pa_cons (pe_ix (ix_tupK (K := K) rfl) (pv 0) pe_int (fun _ _ => rfl)) pa_nil)) (pg_name (i := 3) sc__law_plan_fault.nd rfl (Or.inr rfl))
  (pss_cons (ps_for PassesOwn.never rfl (pi_range1 rfl T.b_range (pa_cons (pe_callB (call_lenK (K := K) rfl) rfl T.b_len PySem.boot_len (pa_cons (pv 1) pa_nil)) pa_nil)) (pg_name (i := 4) sc__law_plan_fault.nd rfl (Or.inl rfl))
  (pss_one (ps_if (pt_cmpR op_gt (pe_ix (ix_tupK (K := K) rfl) (pe_ix (ix_tupK (K := K) rfl) (pe_ix (ix_tupK (K := K) rfl) (pv 2) pe_int (fun _ _ => rfl)) (pv 4) (fun _ _ => rfl)) (pv 3) (fun _ _ => rfl)) (pe_ix (ix_tupK (K := K) rfl) (pe_ix (ix_tupK (K := K) rfl) (pe_ix (ix_tupK (K := K) rfl) (pv 1) (pv 4) (fun _ _ => rfl)) pe_int (fun _ _ => rfl)) (pv 3) (fun _ _ => rfl)) (nomark _))
  (pss_one (ps_ret (pe_tup (pa_cons pe_str (pa_cons (pv 4) (pa_cons (pv 3) pa_nil))))))
  pss_nil)))
 (pss_one (ps_for PassesOwn.never rfl (pi_range1 rfl T.b_range (pa_cons (pe_callB (call_lenK (K := K) rfl) rfl T.b_len PySem.boot_len (pa_cons (pe_ix (ix_tupK (K := K) rfl) (pv 0) pe_int (fun _ _ => rfl)) pa_nil)) pa_nil)) (pg_name (i := 5) sc__law_plan_fault.nd rfl (Or.inl rfl))
  (pss_cons (ps_set (i := 6) sc__law_plan_fault.nd rfl (Or.inr rfl) (pe_ix (ix_tupK (K := K) rfl) (pe_ix (ix_tupK (K := K) rfl) (pv 0) pe_int (fun _ _ => rfl)) (pv 5) (fun _ _ => rfl)))
 (pss_cons (ps_if (PW.pt (pw_or (PW.pt (pw_and (pt_cmpR op_isN (pe_ix (ix_tupK (K := K) rfl) (pv 6) pe_int (fun _ _ => rfl)) pe_non (nomark _)) (pw_and1 (pt_cmpR op_gt (pe_ix (ix_tupK (K := K) rfl) (pe_ix (ix_tupK (K := K) rfl) (pe_ix (ix_tupK (K := K) rfl) (pv 2) pe_int (fun _ _ => rfl)) (pv 5) (fun _ _ => rfl)) (pv 3) (fun _ _ => rfl)) pe_int (nomark _))))) (pw_or1 (PW.pt (pw_and (pt_cmpR op_notN (pe_ix (ix_tupK (K := K) rfl) (pv 6) pe_int (fun _ _ => rfl)) pe_non (nomark _)) (pw_and1 (pt_cmpR op_gt (pe_ix (ix_tupK (K := K) rfl) (pe_ix (ix_tupK (K := K) rfl) (pe_ix (ix_tupK (K := K) rfl) (pv 2) pe_int (fun _ _ => rfl)) (pv 5) (fun _ _ => rfl)) (pv 3) (fun _ _ => rfl)) (pe_ix (ix_tupK (K := K) rfl) (pv 6) pe_int (fun _ _ => rfl)) (nomark _))))))))
  (pss_one (ps_ret (pe_tup (pa_cons pe_str (pa_cons (pv 5) (pa_cons (pv 3) pa_nil))))))
  pss_nil)
 (pss_cons (ps_if (pt_cmpR op_gt (pe_ix (ix_tupK (K := K) rfl) (pe_ix (ix_tupK (K := K) rfl) (pe_ix (ix_tupK (K := K) rfl) (pv 2) pe_int (fun _ _ => rfl)) (pv 5) (fun _ _ => rfl)) (pv 3) (fun _ _ => rfl)) (pe_ix (ix_tupK (K := K) rfl) (pv 6) pe_int (fun _ _ => rfl)) (nomark _))
  (pss_one (ps_ret (pe_tup (pa_cons pe_str (pa_cons (pv 5) (pa_cons (pv 3) pa_nil))))))
  pss_nil)
 (pss_cons (ps_set (i := 7) sc__law_plan_fault.nd rfl (Or.inl rfl) (pe_op op_add (pe_op op_add (pe_ix (ix_tupK (K := K) rfl) (pe_ix (ix_tupK (K := K) rfl) (pe_ix (ix_tupK (K := K) rfl) (pv 2) pe_int (fun _ _ => rfl)) (pv 5) (fun _ _ => rfl)) (pv 3) (fun _ _ => rfl)) (pe_ix (ix_tupK (K := K) rfl) (pe_ix (ix_tupK (K := K) rfl) (pe_ix (ix_tupK (K := K) rfl) (pv 2) pe_int (fun _ _ => rfl)) (pv 5) (fun _ _ => rfl)) (pv 3) (fun _ _ => rfl))) (pe_callB (cr_sumK (K := K) rfl rfl) rfl T.b_sum (by decide +kernel) (pa_cons (pe_lc  (own := [("_law_r", 4)]) rfl sc__law_plan_fault.nd (pi_range1 rfl T.b_range (pa_cons (pe_callB (call_lenK (K := K) rfl) rfl T.b_len PySem.boot_len (pa_cons (pv 1) pa_nil)) pa_nil)) (blkOk_by (own := [("_law_r", 4)]) (N := ["_law_basin_here", "_law_rights_here", "_law_plan", "_law_m", "_law_r", "_law_k", "_law_site", "_law_used"]) (sc := (defScope s__law_plan_fault)) (by decide +kernel))
   (fun _ _ _ _ _ => (pg_name (i := 4) sc__law_plan_fault.nd rfl (Or.inl rfl)))
   (fun _ _ _ _ _ => (pts_one (pt_cmpR (op_eqK (K := K) rfl hr.units) (pe_ix (ix_tupK (K := K) rfl) (pe_ix (ix_tupK (K := K) rfl) (pv 1) (pv 4) (fun _ _ => rfl)) pe_int (fun _ _ => rfl)) (pe_ix (ix_tupK (K := K) rfl) (pv 6) pe_int (fun _ _ => rfl)) (nomark _))))
   (fun _ _ _ _ _ => (pe_ix (ix_tupK (K := K) rfl) (pe_ix (ix_tupK (K := K) rfl) (pe_ix (ix_tupK (K := K) rfl) (pv 2) pe_int (fun _ _ => rfl)) (pv 4) (fun _ _ => rfl)) (pv 3) (fun _ _ => rfl)))) pa_nil))))
 (pss_one (ps_if (pt_cmpR op_gt (pv 7) (pe_fn G__law_receives (hr.mono (by decide)) rfl (pa_cons (pv 0) (pa_cons (pv 2) (pa_cons (pv 5) (pa_cons (pv 3) pa_nil))))) (nomark _))
  (pss_one (ps_ret (pe_tup (pa_cons pe_str (pa_cons (pv 5) (pa_cons (pv 3) pa_nil))))))
  pss_nil))))))))))
 (pss_one (ps_ret pe_non))), ?_⟩
  refine sd_run h ?_
  rintro B0 B1 _ _ ⟨B, R, dl, rel, sto, hB, hR, ok, rfl, rfl⟩
  have hM := hB.M
  have hn := hB.n
  have hl := hR.len
  refine sd_seq (sd_for (ei_rng1 (n := B.M) (by walk_at "ed") (by omega)) (fun i ρ1 => ∃ a b c d e, ρ1 = [.dat (basinD B), .dat (rightsD R), .dat (planD B R dl rel sto), a, b, c, d, e]) ⟨_, _, _, _, _, rfl⟩ ?_ ?_)
  · rintro i m ρ1 hx ⟨a, b, c, d, e, rfl⟩
    obtain ⟨rfl, hm⟩ := rng_at hx
    have okm := ok m hm
    refine ⟨_, by walk_at "gd", ?_⟩
    refine sd_seq (sd_for (ei_rng1 (n := R.length) (ea_cons (ed_lenR (by walk_at "ed")) ea_nil) (by omega)) (fun i ρ1 => ∃ b c d e, ρ1 = [.dat (basinD B), .dat (rightsD R), .dat (planD B R dl rel sto), .dat (natD m), b, c, d, e]) ⟨_, _, _, _, rfl⟩ ?_ ?_)
    · rintro i r ρ1 hx ⟨b, c, d, e, rfl⟩
      obtain ⟨rfl, hr⟩ := rng_at hx
      have hd : m < (rt R r).dem.length := by rw [hR.ok.len _ (rt_mem hr)]; exact hm
      refine ⟨_, by walk_at "gd", ?_⟩
      exact sd_if (b := false) (et_is (by walk_at "ed") (decide_eq_false (by have := (okm.d0 r hr).2; omega))) (fun e => by cases e) fun _ => sd_next ⟨_, _, _, _, rfl⟩
    rintro ρ1 ⟨b, c, d, e, rfl⟩
    refine sd_for (ei_rng1 (n := B.n) (ea_cons (ed_lenR (by walk_at "ed")) ea_nil) (by omega)) (fun i ρ1 => ∃ b c d e, ρ1 = [.dat (basinD B), .dat (rightsD R), .dat (planD B R dl rel sto), .dat (natD m), b, c, d, e]) ⟨_, _, _, _, rfl⟩ ?_ ?_
    · rintro i s ρ1 hx ⟨b, c, d, e, rfl⟩
      obtain ⟨rfl, hs⟩ := rng_at hx
      refine ⟨_, by walk_at "gd", ?_⟩
      refine sd_seq (sd_asg (by walk_at "ed") ?_)
      have out : ((isNon (nxtD (B.site s).nxt) && decide (0 < rel s m)) || (!isNon (optD (B.site s).reach) && decide ((B.site s).reach.getD 0 < rel s m))) = false := by
        have h1 := okm.out s hs
        have h2 := okm.reach s
        cases hx : (B.site s).nxt with
        | none =>
          have h3 := h1 (by unfold Basin.letTo; rw [hx])
          rw [h3]
          cases hr : (B.site s).reach with
          | none => rfl
          | some c =>
            have := hB.ok.reach s c hr
            show (decide (c < 0)) = false
            exact decide_eq_false (by omega)
        | some t =>
          cases hr : (B.site s).reach with
          | none => rfl
          | some c =>
            have := h2 c hs hr
            show (decide (c < rel s m)) = false
            exact decide_eq_false (by omega)
      refine sd_seq (sd_if (b := false) (et_is (et_orC (by walk_at "ed") (et_and (b := decide ((B.site s).reach.getD 0 < rel s m)) (by walk_at "ed") fun e => ?_)) out) (fun e => by cases e) fun _ => sd_next ?_)
      · cases hr : (B.site s).reach with
        | none =>
          rw [hr] at e
          cases e
        | some c =>
          refine et_is (et_test (ed_op (d := .int (rel s m)) (e := .int c) (by walk_at "ed") (ed_is (by walk_at "ed") (by rw [hr]; rfl)) rd_gt)) rfl
      refine sd_seq (sd_if (b := false) (et_is (by walk_at "ed") (decide_eq_false (by have := (okm.room s hs).2; omega))) (fun e => by cases e) fun _ => sd_next ?_)
      refine sd_seq (sd_asg (d := .int (used R dl rel sto s m)) (ed_is (ed_op (ed_op (d := .int (rel s m)) (e := .int (sto s m)) (by walk_at "ed") (by walk_at "ed") rd_add) (ed_sumM (L := (List.range R.length).filter fun r => decide ((rt R r).site = s)) (g := fun r => dl r m) (el_ed (ed_lcI (fun r => decide ((rt R r).site = s)) (fun r => .int (dl r m)) (EdI.weak (ei_rng1 (n := R.length) (ea_cons (ed_lenR (by walk_at "ed")) ea_nil) (by omega))) (by simp; omega) ?_))) rd_add) ?_) ?_)
      · intro j r hr
        obtain ⟨rfl, hr⟩ := rng_at hr
        have hst := hR.ok.site _ (rt_mem hr)
        refine ⟨_, by walk_at "gd", et_is (by walk_at "ed"; exact rd_eqD (shp_nm (by omega)) (shp_nm (by omega))) ?_, fun _ => by walk_at "ed"⟩
        rw [eqv_str]
        exact decide_eq_decide.mpr ⟨nm_inj, fun e => by rw [e]⟩
      · unfold used
        rw [sumL_filter]
        simp only [decide_eq_true_eq]
      refine sd_if (b := false) (et_is (by walk_at "ed"; exact ⟨B, R, dl, rel, sto, s, m, hB, hs, hm, rfl, rfl⟩; walk_at "ed") (decide_eq_false (by have := okm.bal s hs; omega))) (fun e => by cases e) fun _ => sd_next ⟨_, _, _, _, rfl⟩
    · rintro ρ1 ⟨b, c, d, e, rfl⟩
      exact ⟨_, _, _, _, _, rfl⟩
  rintro ρ1 ⟨a, b, c, d, e, rfl⟩
  exact sd_ret ed_non rfl
end HW
end
section
/-! HWF5: the law's own defs: sets of cells and the greatest deliveries; the digits. -/
namespace HW
open PySem PySem.Spec PyProof.Rows L2
local macro_rules | `(tactic| walk_at "ed") => `(tactic| repeat' (first
  | exact ed_int | exact ed_str | exact ed_bl | exact ed_non | exact ea_nil | exact eo_none
  | exact ed_var rfl
  | with_reducible apply ea_cons
  | with_reducible apply ed_op
  | with_reducible apply ed_un
  | with_reducible apply ed_tupT
  | with_reducible apply ed_lstT
  | with_reducible apply et_test
  | with_reducible apply et_B
  | with_reducible apply et_andC
  | with_reducible apply et_orC
  | with_reducible apply et_not
  | with_reducible apply eo_some
  | with_reducible apply ed_callT
  | exact rd_add | exact rd_sub | exact rd_lt | exact rd_le | exact rd_gt | exact rd_ge | exact rd_isN | exact rd_notN | exact ru_neg
  | exact rd_ixT rfl
  | exact rd_ixT (at_rng (by assumption))
  | exact rd_ixT (at_ints (by assumption))
  | exact rd_ixT (at_pred (by assumption))
  | (show List.length _ = _; exact rfl)
  | (show List.length _ ≤ 100000; exact Nat.le_of_ble_eq_true rfl)
  | apply ed_tupT))
local macro_rules | `(tactic| walk_at "gd") => `(tactic| repeat' (first | exact gd_name (by decide) | exact gs_nil | with_reducible apply gs_cons | refine' gd_tup ?_ rfl))
variable {P : Program} {w : World} {K : PySem.W.Frag} {mg : Str → Option Value} {base : Heap} {CA CN CS : Addr}
theorem noOwn_cons {s : Sv} {ρ : Rho} (h : noOwn [s] = true) (k : noOwn ρ = true) : noOwn (s :: ρ) = true := by
  cases s with
  | own _ => cases h
  | box _ _ => cases h
  | lat _ _ => cases h
  | _ => exact k
theorem drop_at {α : Type} {L : List α} {i : Nat} {x : α} (h : L[i]? = some x) : L.drop i = x :: L.drop (i + 1) := by
  obtain ⟨hi, e⟩ := List.getElem?_eq_some_iff.mp h
  rw [List.drop_eq_getElem_cons hi, e]
theorem enterC_cons (B : Basin) (row : List (Nat × Nat)) (c : Nat × Nat) (r : List (Nat × Nat)) (t : Int) : enterC B row (c :: r) t = match enterJ B row c.1 c.2 (List.range c.1) (t + own B row c.1 c.2) with
    | none => none
    | some t' => enterC B row r t' := rfl
abbrev s__law_enters : Stmt := tp 62
theorem sc__law_enters : FnScope ["_law_basin_here", "_law_region", "_law_total", "_law_k", "_law_m", "_law_site", "_law_j", "_law_other", "_law_ahead"] ["_law_basin_here", "_law_region"] (defScope s__law_enters) := ⟨rfl, rfl, rfl, by decide +kernel, rfl, by decide +kernel, by decide +kernel⟩
def d__law_enters (ds : List PyData) (d : PyData) : Prop := ∃ B row, Bas B ∧ (∀ c ∈ row, c.1 < B.n ∧ c.2 < B.M) ∧ row.length ≤ 16 ∧ ds = [basinD B, .list (row.map cellD)] ∧ d = optD (lawEnters B row)
theorem ok__law_enters {f : Addr} {fd : FuncData} (F : Fun K "_law_enters" "_law_enters" s__law_enters f fd) (T : Txt K mg CA CN CS)
     : FnOk P w K mg base CX0 1 f fd ["_law_basin_here", "_law_region"] (spD 2 d__law_enters) := by
  refine F.ok sc__law_enters (fun vs H Q E h => spD_len h) (fun cdv A outer s H vs Q E hr h => ?_)
  refine ⟨_, (pss_cons (ps_set (i := 2) sc__law_enters.nd rfl (Or.inl rfl) pe_int)
 (pss_cons (ps_for PassesOwn.never rfl (pi_listK (K := K) rfl (pv 1)) (pg_tupK (n := 2) (K := K) rfl rfl (pgs_cons (pg_name (i := 3) sc__law_enters.nd rfl (Or.inl rfl)) (pgs_cons (pg_name (i := 4) sc__law_enters.nd rfl (Or.inl rfl)) pgs_nil)))
  (pss_cons (ps_set (i := 5) sc__law_enters.nd rfl (Or.inl rfl) (pe_ix (ix_tupK (K := K) rfl) (pe_ix (ix_tupK (K := K) rfl) (pv 0) pe_int (fun _ _ => rfl)) (pv 3) (fun _ _ => rfl)))
 (pss_cons (ps_set (i := 2) sc__law_enters.nd rfl (Or.inl rfl) (pe_op op_add (pv 2) (pe_ix (ix_tupK (K := K) rfl) (pe_ix (ix_tupK (K := K) rfl) (pv 5) pe_int (fun _ _ => rfl)) (pv 4) (fun _ _ => rfl))))
 (pss_cons (ps_if (pt_cmpR (op_eqK (K := K) rfl hr.units) (pv 4) pe_int (nomark _))
  (pss_one (ps_set (i := 2) sc__law_enters.nd rfl (Or.inl rfl) (pe_op op_add (pv 2) (pe_ix (ix_tupK (K := K) rfl) (pv 5) pe_int (fun _ _ => rfl)))))
  (pss_one (ps_if (pt_cmpR (op_niK (K := K) rfl (un65 hr)) (pe_tup (pa_cons (pv 3) (pa_cons (pe_op op_sub (pv 4) pe_int) pa_nil))) (pv 1) rfl)
  (pss_one (ps_set (i := 2) sc__law_enters.nd rfl (Or.inl rfl) (pe_op op_add (pv 2) (pe_ix (ix_tupK (K := K) rfl) (pv 5) pe_int (fun _ _ => rfl)))))
  pss_nil)))
 (pss_one (ps_for PassesOwn.never rfl (pi_range1 rfl T.b_range (pa_cons (pv 3) pa_nil)) (pg_name (i := 6) sc__law_enters.nd rfl (Or.inl rfl))
  (pss_cons (ps_set (i := 7) sc__law_enters.nd rfl (Or.inl rfl) (pe_ix (ix_tupK (K := K) rfl) (pe_ix (ix_tupK (K := K) rfl) (pv 0) pe_int (fun _ _ => rfl)) (pv 6) (fun _ _ => rfl)))
 (pss_cons (ps_set (i := 8) sc__law_enters.nd rfl (Or.inl rfl) (pe_tup (pa_cons (pv 6) (pa_cons (pe_op op_sub (pv 4) (pe_ix (ix_tupK (K := K) rfl) (pv 7) pe_int (fun _ _ => rfl))) pa_nil))))
 (pss_one (ps_if (PW.pt (pw_and (pt_cmpR (op_eqK (K := K) rfl hr.units) (pe_ix (ix_tupK (K := K) rfl) (pv 7) pe_int (fun _ _ => rfl)) (pe_ix (ix_tupK (K := K) rfl) (pv 5) pe_int (fun _ _ => rfl)) (nomark _)) (pw_and (pt_cmpR op_ge (pe_ix (ix_tupK (K := K) rfl) (pv 8) pe_int (fun _ _ => rfl)) pe_int (nomark _)) (pw_and1 (pt_cmpR (op_niK (K := K) rfl (un65 hr)) (pv 8) (pv 1) rfl)))))
  (pss_cons (ps_if (pt_cmpR op_isN (pe_ix (ix_tupK (K := K) rfl) (pv 7) pe_int (fun _ _ => rfl)) pe_non (nomark _))
  (pss_one (ps_ret pe_non))
  pss_nil)
 (pss_one (ps_set (i := 2) sc__law_enters.nd rfl (Or.inl rfl) (pe_op op_add (pv 2) (pe_ix (ix_tupK (K := K) rfl) (pv 7) pe_int (fun _ _ => rfl))))))
  pss_nil))))))))))
 (pss_one (ps_ret (pv 2))))), ?_⟩
  refine sd_run h ?_
  rintro B0 B1 _ _ ⟨B, row, hB, hrow, hlen, rfl, rfl⟩
  have hn := hB.n
  refine sd_seq (sd_asg ed_int ?_)
  refine sd_seq (sd_for (ei_list (L := row) (emb := cellD) (by walk_at "ed")) (fun i ρ1 => ∃ t a b c d e f, enterC B row (row.drop i) t = lawEnters B row ∧ ρ1 = [.dat (basinD B), .dat (.list (row.map cellD)), .dat (.int t), a, b, c, d, e, f]) ⟨0, _, _, _, _, _, _, rfl, rfl⟩ ?_ ?_)
  · rintro i ⟨k, m⟩ ρ1 hx ⟨t, a, b, c, d, e, f, et, rfl⟩
    obtain ⟨hk, hm⟩ := hrow _ (List.mem_of_getElem? hx)
    have hk : k < B.n := hk
    have hm : m < B.M := hm
    have hI : m < (B.site k).infl.length := by rw [hB.ok.infl k hk]; exact hm
    rw [drop_at hx, enterC_cons] at et
    refine ⟨_, by walk_at "gd", ?_⟩
    refine sd_seq (sd_asg (by walk_at "ed") ?_)
    refine sd_seq (sd_asg (d := .int (t + B.infl k m)) (by walk_at "ed") ?_)
    refine sd_seq (sd_mid (M := fun ρ1 => ρ1 = [.dat (basinD B), .dat (.list (row.map cellD)), .dat (.int (t + own B row k m)), .dat (natD k), .dat (natD m), .dat (siteD k (B.site k)), d, e, f]) ?_ ?_)
    · have e0 : (if m = 0 then t + B.infl k m + (B.site k).held else if (k, m - 1) ∈ row then t + B.infl k m else t + B.infl k m + (B.site k).room) = t + own B row k m := by
        unfold own
        by_cases h : m = 0
        · rw [if_pos h, if_pos h, Int.add_assoc]
        · rw [if_neg h, if_neg h]
          by_cases h2 : (k, m - 1) ∈ row
          · rw [if_pos h2, if_pos h2, Int.add_zero]
          · rw [if_neg h2, if_neg h2, Int.add_assoc]
      rw [← e0]
      refine sd_if (b := decide (m = 0)) (et_is (by walk_at "ed"; exact rd_eqD rfl rfl) ?_) (fun h => sd_asg (by walk_at "ed") ?_) fun h => ?_
      · show PyData.eqv (natD m) (natD 0) = _
        exact eqv_nat
      · rw [if_pos (of_decide_eq_true h)]
        rfl
      · have h := of_decide_eq_false h
        rw [if_neg h]
        refine sd_if (b := !decide ((k, m - 1) ∈ row)) (et_test (ed_op (ed_is (d := .tuple [natD k, .int ((m : Int) - 1)]) (z := cellD (k, m - 1)) (by walk_at "ed") ?_) (ed_var rfl) ?_)) (fun h2 => sd_asg (by walk_at "ed") ?_) fun h2 => sd_next ?_
        · show PyData.tuple [natD k, .int ((m : Int) - 1)] = PyData.tuple [natD k, natD (m - 1)]
          rw [show ((m : Int) - 1) = ((m - 1 : Nat) : Int) by omega]
          rfl
        · rw [← any_cell]
          exact rd_notInD rfl (shp_cells row)
        · have h2 : ¬ (k, m - 1) ∈ row := by
            intro z
            rw [decide_eq_true z] at h2
            cases h2
          rw [if_neg h2]
          rfl
        · have h2 : (k, m - 1) ∈ row := by
            by_cases z : (k, m - 1) ∈ row
            · exact z
            · rw [decide_eq_false z] at h2
              cases h2
          rw [if_pos h2]
          rfl
    · rintro ρ1 rfl
      refine sd_for (ei_rng1 (n := k) (by walk_at "ed") (by omega)) (fun j ρ1 => ∃ t' a b c, enterJ B row k m ((List.range k).drop j) t' = enterJ B row k m (List.range k) (t + own B row k m) ∧ ρ1 = [.dat (basinD B), .dat (.list (row.map cellD)), .dat (.int t'), .dat (natD k), .dat (natD m), .dat (siteD k (B.site k)), a, b, c]) ⟨_, _, _, _, rfl, rfl⟩ ?_ ?_
      · rintro i j ρ1 hj ⟨t', a, b, c, ej, rfl⟩
        obtain ⟨rfl, hjk⟩ := rng_at hj
        have hj' : j < B.n := by omega
        rw [drop_at hj] at ej
        refine ⟨_, by walk_at "gd", ?_⟩
        refine sd_seq (sd_asg (by walk_at "ed") ?_)
        refine sd_seq (sd_asg (d := .tuple [natD j, .int ((m : Int) - ((B.site j).tr : Nat))]) (by walk_at "ed") ?_)
        have hm2 : (B.site j).tr ≤ m → (.tuple [natD j, .int ((m : Int) - ((B.site j).tr : Nat))] : PyData) = cellD (j, m - (B.site j).tr) := fun h => by
          show PyData.tuple [natD j, .int ((m : Int) - ((B.site j).tr : Nat))] = PyData.tuple [natD j, natD (m - (B.site j).tr)]
          rw [show ((m : Int) - ((B.site j).tr : Nat)) = ((m - (B.site j).tr : Nat) : Int) by omega]
          rfl
        refine sd_if (b := decide (comes B row k m j)) (et_is (et_and (a := decide ((B.site j).nxt = some k)) (b := decide ((B.site j).tr ≤ m) && decide (¬ (j, m - (B.site j).tr) ∈ row)) (et_is (by walk_at "ed"; exact rd_eqD (shp_nxt (nxt_100 hB hj')) (shp_nm (by omega))) eqv_nxt) fun _ => et_and (a := decide ((B.site j).tr ≤ m)) (b := decide (¬ (j, m - (B.site j).tr) ∈ row)) (et_is (by walk_at "ed") (decide_eq_decide.mpr ⟨fun h => by omega, fun h => by omega⟩)) fun h => et_test (ed_op (ed_is (by walk_at "ed") (hm2 (of_decide_eq_true h))) (ed_var rfl) ?_)) ?_) (fun h => ?_) fun h => sd_next ?_
        · rw [decide_not, ← any_cell]
          exact rd_notInD rfl (shp_cells row)
        · rw [← Bool.decide_and, ← Bool.decide_and]
          exact decide_eq_decide.mpr Iff.rfl
        · have hc : comes B row k m j := of_decide_eq_true h
          cases hr : (B.site j).reach with
          | none =>
            refine sd_seq (sd_if (b := true) (et_is (by walk_at "ed") (by rw [hr]; rfl)) (fun _ => sd_ret ed_non ?_) fun e => by cases e)
            have e1 : enterJ B row k m (j :: (List.range k).drop (j + 1)) t' = none := by
              show (if comes B row k m j then _ else _) = _
              rw [if_pos hc]
              simp only [hr]
            rw [e1] at ej
            rw [← ej] at et
            rw [← et]
            rfl
          | some cc =>
            refine sd_seq (sd_if (b := false) (et_is (by walk_at "ed") (by rw [hr]; rfl)) (fun e => by cases e) fun _ => sd_next ?_)
            refine sd_asg (d := .int (t' + cc)) (ed_op (ed_var rfl) (ed_is (d := optD (B.site j).reach) (by walk_at "ed") (by rw [hr]; rfl)) rd_add) ⟨t' + cc, .dat (natD j), .dat (siteD j (B.site j)), .dat (.tuple [natD j, .int ((m : Int) - ((B.site j).tr : Nat))]), ?_, rfl⟩
            have e1 : enterJ B row k m (j :: (List.range k).drop (j + 1)) t' = enterJ B row k m ((List.range k).drop (j + 1)) (t' + cc) := by
              show (if comes B row k m j then _ else _) = _
              rw [if_pos hc]
              simp only [hr]
            rw [← e1]
            exact ej
        · have hc : ¬ comes B row k m j := of_decide_eq_false h
          refine ⟨t', .dat (natD j), .dat (siteD j (B.site j)), .dat (.tuple [natD j, .int ((m : Int) - ((B.site j).tr : Nat))]), ?_, rfl⟩
          have e1 : enterJ B row k m (j :: (List.range k).drop (j + 1)) t' = enterJ B row k m ((List.range k).drop (j + 1)) t' := by
            show (if comes B row k m j then _ else _) = _
            rw [if_neg hc]
          rw [← e1]
          exact ej
      · rintro ρ1 ⟨t', a, b, c, ej, rfl⟩
        rw [List.length_range, List.drop_eq_nil_of_le (by simp)] at ej
        have ej : some t' = enterJ B row k m (List.range k) (t + own B row k m) := ej
        refine ⟨t', _, _, _, _, _, _, ?_, rfl⟩
        simp only [← ej] at et
        exact et
  · rintro ρ1 ⟨t, a, b, c, d, e, f, et, rfl⟩
    rw [List.drop_eq_nil_of_le (Nat.le_refl _)] at et
    rw [← et]
    exact sd_ret (ed_var rfl) rfl
def rowD (row : List (Nat × Nat)) : PyData := .list (row.map cellD)
def regsL (B : Basin) : List (List (Nat × Nat) × Int) := (rowsOf B.cells).tail.filterMap fun row => (lawEnters B row).map fun t => (row, t)
def regD (r : List (Nat × Nat) × Int) : PyData := .tuple [.tuple (r.1.map cellD), .int r.2]
theorem rows_sub {B : Basin} {i : Nat} {row : List (Nat × Nat)} (h : row ∈ rowsFrom [[]] (B.cells.take i)) : row.length ≤ B.cells.length ∧ ∀ c ∈ row, c.1 < B.n ∧ c.2 < B.M := by
  obtain ⟨a, b, ha, hb, e⟩ := rowsFrom_sub _ _ _ h
  have ha : a = [] := by simpa using ha
  subst ha
  rw [List.nil_append] at e
  subst e
  have h2 := hb.trans (List.take_sublist i B.cells)
  exact ⟨h2.length_le, fun c hc => mem_cells.mp (h2.subset hc)⟩
theorem rowsFrom_snoc {α : Type} (cs : List α) (c : α) (rows : List (List α)) : rowsFrom rows (cs ++ [c]) = rowsFrom rows cs ++ (rowsFrom rows cs).map fun row => row ++ [c] := by
  unfold rowsFrom
  rw [List.foldl_append]
  rfl
abbrev s__law_regions : Stmt := tp 63
theorem sc__law_regions : FnScope ["_law_basin_here", "_law_rows", "_law_cell_here", "_law_found", "_law_row", "_law_total"] ["_law_basin_here"] (defScope s__law_regions) := ⟨rfl, rfl, rfl, by decide +kernel, rfl, by decide +kernel, by decide +kernel⟩
def d__law_regions (ds : List PyData) (d : PyData) : Prop := ∃ B, Bas B ∧ ds = [basinD B] ∧ d = .list ((regsL B).map regD)
theorem ok__law_regions {f : Addr} {fd : FuncData} (F : Fun K "_law_regions" "_law_regions" s__law_regions f fd) (T : Txt K mg CA CN CS)
    (G__law_cells : FnF P w K mg base 1 "_law_cells" ["_law_basin_here"] (spD 1 d__law_cells))
    (G__law_enters : FnF P w K mg base 1 "_law_enters" ["_law_basin_here", "_law_region"] (spD 2 d__law_enters)) : FnOk P w K mg base CX0 2 f fd ["_law_basin_here"] (spD 1 d__law_regions) := by
  refine F.ok sc__law_regions (fun vs H Q E h => spD_len h) (fun cdv A outer s H vs Q E hr h => ?_)
  refine ⟨_, (pss_cons (ps_set (i := 1) sc__law_regions.nd rfl (Or.inl rfl) (pe_lst (pa_cons (pe_lst pa_nil) pa_nil)))
 (pss_cons (ps_for PassesOwn.never rfl (pi_listK (K := K) rfl (pe_fn G__law_cells (hr.mono (by decide)) rfl (pa_cons (pv 0) pa_nil))) (pg_name (i := 2) sc__law_regions.nd rfl (Or.inr rfl))
  (pss_one (ps_set (i := 1) sc__law_regions.nd rfl (Or.inl rfl) (pe_op op_cat (pv 1) (pe_lc  (own := [("_law_row", 4)]) rfl sc__law_regions.nd (pi_listK (K := K) rfl (pe_callTy (call_lisK (K := K) rfl) rfl T.b_list (by decide +kernel) (pa_cons (pv 1) pa_nil))) (blkOk_by (own := [("_law_row", 4)]) (N := ["_law_basin_here", "_law_rows", "_law_cell_here", "_law_found", "_law_row", "_law_total"]) (sc := (defScope s__law_regions)) (by decide +kernel))
   (fun _ _ _ _ _ => (pg_name (i := 4) sc__law_regions.nd rfl (Or.inl rfl)))
   (fun _ _ _ _ _ => pts_nil)
   (fun _ _ _ _ _ => (pe_op op_cat (pv 4) (pe_lst (pa_cons (pv 2) pa_nil)))))))))
 (pss_cons (ps_set (i := 3) sc__law_regions.nd rfl (Or.inl rfl) (pe_lst pa_nil))
 (pss_cons (ps_for PassesOwn.never rfl (pi_listK (K := K) rfl (pe_slice (sl_lisK (K := K) rfl) (pv 1) (po_some pe_int) po_none)) (pg_name (i := 4) sc__law_regions.nd rfl (Or.inl rfl))
  (pss_cons (ps_set (i := 5) sc__law_regions.nd rfl (Or.inl rfl) (pe_fn G__law_enters (hr.mono (by decide)) rfl (pa_cons (pv 0) (pa_cons (pv 4) pa_nil))))
 (pss_one (ps_if (pt_cmpR op_notN (pv 5) pe_non (nomark _))
  (pss_one (ps_expr (pe_bm PySem.F.plainAttrs_list PySem.F.slot_list_append PySem.F.type_list_append mt_append (pv 3) (pa_cons (pe_tup (pa_cons (pe_callTy (call_tupK (K := K) rfl) rfl T.b_tuple (by decide +kernel) (pa_cons (pv 4) pa_nil)) (pa_cons (pv 5) pa_nil))) pa_nil))))
  pss_nil))))
 (pss_one (ps_ret (pv 3))))))), ?_⟩
  refine sd_run h ?_
  rintro B0 B1 _ _ ⟨B, hB, rfl, rfl⟩
  have z1 : B.cells.length ≤ 16 := by rw [cells_len]; exact Nat.mul_le_mul hB.M hB.n
  have two : ∀ i, i ≤ 16 → (2 : Nat) ^ i ≤ 65536 := fun i hi => Nat.le_trans (Nat.pow_le_pow_right (by decide) hi) (by decide)
  have lenR : ∀ i, (rowsFrom [[]] (B.cells.take i)).length = 2 ^ (min i B.cells.length) := fun i => by
    rw [rowsFrom_len, List.length_take]
    simp
  refine sd_seq (sd_asg (d := .list ((rowsFrom [[]] (B.cells.take 0)).map rowD)) (ed_is (d := .list [.list []]) (by walk_at "ed") rfl) ?_)
  refine sd_seq (sd_for (ei_list (L := B.cells) (emb := cellD) (by walk_at "ed"; exact ⟨B, hB, rfl, rfl⟩)) (fun i ρ1 => ∃ a, noOwn [a] = true ∧ ρ1 = [.dat (basinD B), .dat (.list ((rowsFrom [[]] (B.cells.take i)).map rowD)), a, .any, .any, .any]) ⟨.any, rfl, rfl⟩ ?_ ?_)
  · rintro i c ρ1 hc ⟨a, ha, rfl⟩
    have hi : i < B.cells.length := (List.getElem?_eq_some_iff.mp hc).1
    have tk : B.cells.take (i + 1) = B.cells.take i ++ [c] := by rw [List.take_succ, hc]; rfl
    have len := lenR i
    rw [Nat.min_eq_left (Nat.le_of_lt hi)] at len
    have t2 := two (i + 1) (by omega)
    rw [Nat.pow_succ] at t2
    refine ⟨_, by walk_at "gd", sd_asg (d := .list ((rowsFrom [[]] (B.cells.take (i + 1))).map rowD)) (ed_is (ed_op (ed_var rfl) (ed_lc1 (L := rowsFrom [[]] (B.cells.take i)) (emb := rowD) (fun row => rowD (row ++ [c])) (EdI.weak (ei_list (ed_lisL (el_ed (ed_var rfl))))) (by omega) ?_) (rd_cat ?_)) ?_) ⟨.dat (cellD c), rfl, rfl⟩⟩
    · intro j row hj
      have hr := (rows_sub (List.mem_of_getElem? hj)).1
      refine ⟨_, by walk_at "gd", ed_is (ed_op (d := rowD row) (e := .list [cellD c]) (ed_var rfl) (ed_lstT (ea_cons (ed_var rfl) ea_nil) (Nat.le_of_ble_eq_true rfl)) (rd_cat (by rw [List.length_map]; show _ + 1 ≤ _; omega))) ?_⟩
      unfold rowD
      rw [List.map_append]
      rfl
    · rw [List.length_map, List.length_map, len]
      omega
    · rw [tk, rowsFrom_snoc, List.map_append, List.map_map]
      rfl
  rintro ρ1 ⟨a, ha, rfl⟩
  have all : B.cells.take B.cells.length = B.cells := List.take_length
  rw [all]
  have er : rowsFrom [[]] B.cells = rowsOf B.cells := rfl
  rw [er]
  have lenO : (rowsOf B.cells).length ≤ 65536 := by rw [rowsOf_len]; exact two _ z1
  let O : Nat → List (List (Nat × Nat) × Int) := fun i => ((rowsOf B.cells).tail.take i).filterMap fun row => (lawEnters B row).map fun t => (row, t)
  refine sd_seq (sd_own ?_)
  refine sd_seq (sd_for (ei_list (L := (rowsOf B.cells).tail) (emb := rowD) (ed_is (ed_slL (ds := (rowsOf B.cells).map rowD) (lo := some 1) (hi := none) (ed_var rfl) (eo_some ed_int) eo_none) ?_)) (fun i ρ1 => ∃ b c, ρ1 = [.dat (basinD B), .dat (.list ((rowsOf B.cells).map rowD)), a, .own ((O i).map regD), b, c]) ⟨.any, .any, rfl⟩ ?_ ?_)
  · unfold cutD
    rw [show (some (1 : Int)) = some ((1 : Nat) : Int) from rfl, HT.sIx_nat, HT.sIx_none, List.length_map]
    have h1 : 1 ≤ (rowsOf B.cells).length := by rw [rowsOf_tail]; simp
    rw [Nat.min_eq_left h1, List.take_of_length_le (by simp), ← List.map_drop, List.drop_one]
  · rintro i row ρ1 hx ⟨b, c, rfl⟩
    have hmem : row ∈ rowsOf B.cells := List.mem_of_mem_tail (List.mem_of_getElem? hx)
    rw [← er, ← all] at hmem
    obtain ⟨hr1, hr2⟩ := rows_sub hmem
    have hi : i < (rowsOf B.cells).tail.length := (List.getElem?_eq_some_iff.mp hx).1
    have tk : (rowsOf B.cells).tail.take (i + 1) = (rowsOf B.cells).tail.take i ++ [row] := by rw [List.take_succ, hx]; rfl
    have lenOi : (O i).length ≤ 65536 := by
      have h1 := List.length_filterMap_le (fun row => (lawEnters B row).map fun t => (row, t)) ((rowsOf B.cells).tail.take i)
      rw [List.length_take, List.length_tail] at h1
      show (((rowsOf B.cells).tail.take i).filterMap _).length ≤ _
      omega
    refine ⟨_, by walk_at "gd", ?_⟩
    refine sd_seq (sd_asg (d := optD (lawEnters B row)) (by walk_at "ed"; exact ⟨B, row, hB, hr2, by omega, rfl, rfl⟩) ?_)
    have oe : O (i + 1) = O i ++ ((lawEnters B row).map fun t => (row, t)).toList := by
      show ((rowsOf B.cells).tail.take (i + 1)).filterMap _ = ((rowsOf B.cells).tail.take i).filterMap _ ++ _
      rw [tk, List.filterMap_append]
      simp only [List.filterMap_cons, List.filterMap_nil]
      cases lawEnters B row <;> rfl
    cases ht : lawEnters B row with
    | none =>
      refine sd_if (b := false) (et_is (by walk_at "ed") rfl) (fun e => by cases e) fun _ => sd_next ⟨.dat (rowD row), .dat .none, ?_⟩
      rw [oe, ht]
      show _ = [_, _, _, Sv.own ((O i ++ []).map regD), _, _]
      rw [List.append_nil]
      rfl
    | some t =>
      refine sd_if (b := true) (et_is (by walk_at "ed") rfl) (fun _ => sd_app (d := regD (row, t)) rfl (ed_tupT (ea_cons (ed_tupL (el_ed (ed_var rfl))) (ea_cons (ed_var rfl) ea_nil)) (Nat.le_of_ble_eq_true rfl)) (noOwn_cons (s := a) (ρ := [.any, .dat (rowD row), .dat (optD (some t))]) ha rfl) (by rw [List.length_map]; omega) ⟨.dat (rowD row), .dat (.int t), ?_⟩) fun e => by cases e
      rw [oe, ht, List.map_append]
      rfl
  · rintro ρ1 ⟨b, c, rfl⟩
    refine sd_retOwn rfl ?_
    simp only [O, List.take_length]
    rfl
def convR (r : List (Nat × Nat) × Int) : List Node × Int := (r.1.map toN, r.2)
def convF (p : (Nat × Nat) × Int) : Node × Int := (toN p.1, p.2)
def foundD (p : (Nat × Nat) × Int) : PyData := .tuple [cellD p.1, .int p.2]
theorem regs_conv (B : Basin) : regs B = (regsL B).map convR := by
  unfold regs regsL
  rw [List.map_filterMap]
  congr 1
  funext row
  cases lawEnters B row <;> rfl
theorem sum_found (found : List ((Nat × Nat) × Int)) (row : List (Nat × Nat)) : sumL (found.map convF) (fun p => if p.1 ∈ row.map toN then p.2 else 0) = sumL (found.filter fun p => decide (p.1 ∈ row)) fun p => p.2 := by
  rw [sumL_map, sumL_filter]
  refine sumL_congr fun p _ => ?_
  show (if toN p.1 ∈ row.map toN then p.2 else 0) = _
  by_cases h : p.1 ∈ row
  · rw [if_pos (mem_toN.mpr h), if_pos (decide_eq_true h)]
  · rw [if_neg (fun z => h (mem_toN.mp z)), if_neg (by rw [decide_eq_false h]; exact Bool.false_ne_true)]
/-- one set's bound -/
def capR (found : List ((Nat × Nat) × Int)) (c : Nat × Nat) (most : Int) (r : List (Nat × Nat) × Int) : Int := if c ∈ r.1 then min most (r.2 - sumL (found.filter fun p => decide (p.1 ∈ r.1)) fun p => p.2) else most
theorem lgMost_conv (B : Basin) (found : List ((Nat × Nat) × Int)) (c : Nat × Nat) (size : Int) : lgMost (regs B) (found.map convF) (toN c) size = (regsL B).foldl (capR found c) size := by
  rw [regs_conv]
  unfold lgMost
  rw [List.foldl_map]
  congr 1
  funext most r
  unfold capR convR
  simp only [sum_found]
  by_cases h : c ∈ r.1
  · rw [if_pos (mem_toN.mpr h), if_pos h]
  · rw [if_neg (fun z => h (mem_toN.mp z)), if_neg h]
abbrev s__law_greatest : Stmt := tp 64
theorem sc__law_greatest : FnScope ["_law_basin_here", "_law_rights_here", "_law_regions_here", "_law_found", "_law_claim", "_law_cell_here", "_law_size", "_law_most", "_law_region", "_law_total", "_law_other", "_law_amount"] ["_law_basin_here", "_law_rights_here"] (defScope s__law_greatest) := ⟨rfl, rfl, rfl, by decide +kernel, rfl, by decide +kernel, by decide +kernel⟩
def d__law_greatest (ds : List PyData) (d : PyData) : Prop := ∃ B R, Bas B ∧ Rts B R ∧ ds = [basinD B, rightsD R] ∧ d = listD ((lgRun (regs B) [] (claims B R)).map (·.2))
theorem ok__law_greatest {f : Addr} {fd : FuncData} (F : Fun K "_law_greatest" "_law_greatest" s__law_greatest f fd) (T : Txt K mg CA CN CS)
    (G__law_claims : FnF P w K mg base 2 "_law_claims" ["_law_basin_here", "_law_rights_here"] (spD 2 d__law_claims))
    (G__law_regions : FnF P w K mg base 2 "_law_regions" ["_law_basin_here"] (spD 1 d__law_regions)) : FnOk P w K mg base CX0 3 f fd ["_law_basin_here", "_law_rights_here"] (spD 2 d__law_greatest) := by
  refine F.ok sc__law_greatest (fun vs H Q E h => spD_len h) (fun cdv A outer s H vs Q E hr h => ?_)
  refine ⟨_, (pss_cons (ps_set (i := 2) sc__law_greatest.nd rfl (Or.inl rfl) (pe_fn G__law_regions (hr.mono (by decide)) rfl (pa_cons (pv 0) pa_nil)))
 (pss_cons (ps_set (i := 3) sc__law_greatest.nd rfl (Or.inl rfl) (pe_lst pa_nil))
 (pss_cons (ps_for PassesOwn.never rfl (pi_listK (K := K) rfl (pe_fn G__law_claims (hr.mono (by decide)) rfl (pa_cons (pv 0) (pa_cons (pv 1) pa_nil)))) (pg_tupK (n := 3) (K := K) rfl rfl (pgs_cons (pg_name (i := 4) sc__law_greatest.nd rfl (Or.inl rfl)) (pgs_cons (pg_name (i := 5) sc__law_greatest.nd rfl (Or.inl rfl)) (pgs_cons (pg_name (i := 6) sc__law_greatest.nd rfl (Or.inl rfl)) pgs_nil))))
  (pss_cons (ps_set (i := 7) sc__law_greatest.nd rfl (Or.inl rfl) (pv 6))
 (pss_cons (ps_for PassesOwn.never rfl (pi_listK (K := K) rfl (pv 2)) (pg_tupK (n := 2) (K := K) rfl rfl (pgs_cons (pg_name (i := 8) sc__law_greatest.nd rfl (Or.inr rfl)) (pgs_cons (pg_name (i := 9) sc__law_greatest.nd rfl (Or.inl rfl)) pgs_nil)))
  (pss_one (ps_if (pt_cmpR (op_inTK (K := K) rfl (un65 hr)) (pv 5) (pv 8) rfl)
  (pss_one (ps_set (i := 7) sc__law_greatest.nd rfl (Or.inl rfl) (pe_callB (call_min2 rfl) rfl T.b_min (by decide +kernel) (pa_cons (pv 7) (pa_cons (pe_op op_sub (pv 9) (pe_callB (cr_sumK (K := K) rfl rfl) rfl T.b_sum (by decide +kernel) (pa_cons (pe_lc  (own := [("_law_other", 10), ("_law_amount", 11)]) rfl sc__law_greatest.nd (pi_listK (K := K) rfl (pv 3)) (blkOk_by (own := [("_law_other", 10), ("_law_amount", 11)]) (N := ["_law_basin_here", "_law_rights_here", "_law_regions_here", "_law_found", "_law_claim", "_law_cell_here", "_law_size", "_law_most", "_law_region", "_law_total", "_law_other", "_law_amount"]) (sc := (defScope s__law_greatest)) (by decide +kernel))
   (fun _ _ _ _ _ => (pg_tupK (n := 2) (K := K) rfl rfl (pgs_cons (pg_name (i := 10) sc__law_greatest.nd rfl (Or.inl rfl)) (pgs_cons (pg_name (i := 11) sc__law_greatest.nd rfl (Or.inl rfl)) pgs_nil))))
   (fun _ _ _ _ _ => (pts_one (pt_cmpR (op_inTK (K := K) rfl (un65 hr)) (pv 10) (pv 8) rfl)))
   (fun _ _ _ _ _ => (pv 11))) pa_nil))) pa_nil)))))
  pss_nil)))
 (pss_one (ps_expr (pe_bm PySem.F.plainAttrs_list PySem.F.slot_list_append PySem.F.type_list_append mt_append (pv 3) (pa_cons (pe_tup (pa_cons (pv 5) (pa_cons (pv 7) pa_nil))) pa_nil)))))))
 (pss_one (ps_ret (pe_lc  (own := [("_law_cell_here", 5), ("_law_amount", 11)]) rfl sc__law_greatest.nd (pi_listK (K := K) rfl (pv 3)) (blkOk_by (own := [("_law_cell_here", 5), ("_law_amount", 11)]) (N := ["_law_basin_here", "_law_rights_here", "_law_regions_here", "_law_found", "_law_claim", "_law_cell_here", "_law_size", "_law_most", "_law_region", "_law_total", "_law_other", "_law_amount"]) (sc := (defScope s__law_greatest)) (by decide +kernel))
   (fun _ _ _ _ _ => (pg_tupK (n := 2) (K := K) rfl rfl (pgs_cons (pg_name (i := 5) sc__law_greatest.nd rfl (Or.inl rfl)) (pgs_cons (pg_name (i := 11) sc__law_greatest.nd rfl (Or.inl rfl)) pgs_nil))))
   (fun _ _ _ _ _ => pts_nil)
   (fun _ _ _ _ _ => (pv 11)))))))), ?_⟩
  refine sd_run h ?_
  rintro B0 B1 _ _ ⟨B, R, hB, hR, rfl, rfl⟩
  have z1 : B.cells.length ≤ 16 := by rw [cells_len]; exact Nat.mul_le_mul hB.M hB.n
  have two : ∀ i, i ≤ 16 → (2 : Nat) ^ i ≤ 65536 := fun i hi => Nat.le_trans (Nat.pow_le_pow_right (by decide) hi) (by decide)
  have zc : (claimL B R).length ≤ 20 := by
    unfold claimL
    rw [parts_len]
    have := Nat.mul_le_mul hR.len hB.M
    have := hB.n
    omega
  refine sd_seq (sd_asg (d := .list ((regsL B).map regD)) (by walk_at "ed"; exact ⟨B, hB, rfl, rfl⟩) ?_)
  refine sd_seq (sd_own ?_)
  let cl : Claim → Node × Int := fun c => (Node.cell (c.cell B R).1 (c.cell B R).2, c.size B R)
  refine sd_seq (sd_for (ei_list (L := claimL B R) (emb := claim3D B R) (by walk_at "ed"; exact ⟨B, R, hB, hR, rfl, rfl⟩)) (fun i ρ1 => ∃ (F : List ((Nat × Nat) × Int)) (v : Nat → Sv), (∀ n, noOwn [v n] = true) ∧ F.length = i ∧ lgRun (regs B) [] (claims B R) = lgRun (regs B) (F.map convF) (((claimL B R).drop i).map cl) ∧ ρ1 = [.dat (basinD B), .dat (rightsD R), .dat (.list ((regsL B).map regD)), .own (F.map foundD), v 0, v 1, v 2, v 3, v 4, v 5, .any, .any]) ⟨[], fun _ => .any, fun _ => rfl, rfl, ?_, rfl⟩ ?_ ?_)
  · rw [claims_eq]
    rfl
  · rintro i c ρ1 hc ⟨F, v, hv, lF, eF, rfl⟩
    have hi : i < (claimL B R).length := (List.getElem?_eq_some_iff.mp hc).1
    refine ⟨_, by walk_at "gd", ?_⟩
    refine sd_seq (sd_asg (by walk_at "ed") ?_)
    refine sd_seq (sd_for (ei_list (L := regsL B) (emb := regD) (by walk_at "ed")) (fun j ρ1 => ∃ x y, noOwn [x] = true ∧ noOwn [y] = true ∧ ρ1 = [.dat (basinD B), .dat (rightsD R), .dat (.list ((regsL B).map regD)), .own (F.map foundD), .dat (claimD c), .dat (cellD (c.cell B R)), .dat (.int (c.size B R)), .dat (.int (((regsL B).take j).foldl (capR F (c.cell B R)) (c.size B R))), x, y, .any, .any]) ⟨_, _, hv 4, hv 5, rfl⟩ ?_ ?_)
    · rintro j r ρ1 hr ⟨x, y, hx, hy, rfl⟩
      have tk : (regsL B).take (j + 1) = (regsL B).take j ++ [r] := by rw [List.take_succ, hr]; rfl
      refine ⟨_, by walk_at "gd", ?_⟩
      rw [tk, List.foldl_append]
      refine sd_if (b := decide (c.cell B R ∈ r.1)) (et_is (et_test (ed_op (ed_var rfl) (ed_var rfl) (rd_inT (d := cellD (c.cell B R)) (ds := r.1.map cellD) rfl (shp_cellsT r.1)))) any_cell) (fun h => ?_) fun h => sd_next ⟨.dat (.tuple (r.1.map cellD)), .dat (.int r.2), rfl, rfl, ?_⟩
      · refine sd_asg (d := .int (capR F (c.cell B R) (((regsL B).take j).foldl (capR F (c.cell B R)) (c.size B R)) r)) (ed_is (ed_cb (ea_cons (ed_var rfl) (ea_cons (ed_op (ed_var rfl) (ed_sumM (L := F.filter fun p => decide (p.1 ∈ r.1)) (g := fun p => p.2) (el_ed (ed_lcI (L := F) (emb := foundD) (fun p => decide (p.1 ∈ r.1)) (fun p => .int p.2) (ew_list (el_own rfl)) (by omega) ?_))) rd_sub) ea_nil)) rc_min2) ?_) ⟨.dat (.tuple (r.1.map cellD)), .dat (.int r.2), rfl, rfl, rfl⟩
        · intro k p hp
          exact ⟨_, by walk_at "gd", et_is (et_test (ed_op (ed_var rfl) (ed_var rfl) (rd_inT (d := cellD p.1) (ds := r.1.map cellD) rfl (shp_cellsT r.1)))) any_cell, fun _ => ed_var rfl⟩
        · unfold capR
          rw [if_pos (of_decide_eq_true h)]
      · have e1 : [r].foldl (capR F (c.cell B R)) (((regsL B).take j).foldl (capR F (c.cell B R)) (c.size B R)) = ((regsL B).take j).foldl (capR F (c.cell B R)) (c.size B R) := by
          show capR F _ _ r = _
          unfold capR
          rw [if_neg (of_decide_eq_false h)]
        rw [e1]
        rfl
    rintro ρ1 ⟨x, y, hx, hy, rfl⟩
    rw [List.take_length, ← lgMost_conv]
    refine sd_app (d := foundD (c.cell B R, lgMost (regs B) (F.map convF) (toN (c.cell B R)) (c.size B R))) rfl (by walk_at "ed") (noOwn_cons (s := x) (ρ := [y, .any, .any]) hx (noOwn_cons (s := y) (ρ := [.any, .any]) hy rfl)) (by rw [List.length_map]; omega) ⟨F ++ [(c.cell B R, lgMost (regs B) (F.map convF) (toN (c.cell B R)) (c.size B R))], fun n => match n with
      | 0 => .dat (claimD c)
      | 1 => .dat (cellD (c.cell B R))
      | 2 => .dat (.int (c.size B R))
      | 3 => .dat (.int (lgMost (regs B) (F.map convF) (toN (c.cell B R)) (c.size B R)))
      | 4 => x
      | _ => y, fun n => by
        match n with
        | 0 => rfl
        | 1 => rfl
        | 2 => rfl
        | 3 => rfl
        | 4 => exact hx
        | n + 5 => exact hy, by rw [List.length_append, lF]; rfl, ?_, by rw [List.map_append]; rfl⟩
    rw [drop_at hc] at eF
    rw [eF, List.map_append]
    rfl
  · rintro ρ1 ⟨F, v, hv, lF, eF, rfl⟩
    rw [List.drop_eq_nil_of_le (Nat.le_refl _)] at eF
    refine sd_ret (ed_lc1 (L := F) (emb := foundD) (fun p => .int p.2) (ew_list (el_own rfl)) (by omega) ?_) ?_
    · intro i p hp
      exact ⟨_, by walk_at "gd", ed_var rfl⟩
    · rw [eF]
      show _ = listD (((F.map convF)).map (·.2))
      unfold listD
      rw [List.map_map, List.map_map]
      rfl
end HW
end
section
/-! HWEff: the law's box: expressions and statements that draw. -/
namespace HW
open PySem PySem.Spec PyProof.Rows L2
def cut (H : Hp) (p : Addr) : Hp := fun a => if a = p then none else H a
theorem cut_at {H : Hp} {p : Addr} : cut H p p = none := if_pos rfl
theorem cut_ne {H : Hp} {p a : Addr} (h : a ≠ p) : cut H p a = H a := if_neg h
theorem ex_cut {H : Hp} {p : Addr} : Ex (cut H p) H := fun a o h => by
  by_cases q : a = p
  · subst q
    rw [cut_at] at h
    cases h
  · rw [cut_ne q] at h
    exact h
theorem cut_some {H : Hp} {p a : Addr} {o : HO} (h : H a = some o) (q : a ≠ p) : cut H p a = some o := by rw [cut_ne q]; exact h
/-- no list of these slots that may change stands at a -/
def apart : Rho → Addr → Prop
  | [], _ => True
  | .own _ :: _, _ => False
  | .box p _ :: ρ, a => p ≠ a ∧ apart ρ a
  | .lat p _ :: ρ, a => p ≠ a ∧ apart ρ a
  | _ :: ρ, a => apart ρ a
theorem env_apart {B H0 H H0' H' : Hp} {a : Addr} (eb : Ex H0 H0') (t : ∀ b o, H b = some o → b ≠ a → H' b = some o) (n : ∀ b o, H b = some o → b ≠ a → H0 b = none → H0' b = none) :
    ∀ {σ : Slots} {ρ : Rho}, apart ρ a → EnvOk B H0 H σ ρ → EnvOk B H0' H' σ ρ
  | [], [], _, _ => trivial
  | x :: σ, .any :: ρ, p, h => ⟨trivial, env_apart eb t n p h.2⟩
  | x :: σ, .dat d :: ρ, p, h => ⟨by obtain ⟨v, e, h1⟩ := h.1; exact ⟨v, e, h1.mono eb⟩, env_apart eb t n p h.2⟩
  | x :: σ, .raw v :: ρ, p, h => ⟨h.1, env_apart eb t n p h.2⟩
  | x :: σ, .dct f :: ρ, p, h => ⟨by obtain ⟨v, e, h1⟩ := h.1; exact ⟨v, e, h1.mono eb⟩, env_apart eb t n p h.2⟩
  | x :: σ, .own _ :: ρ, p, h => p.elim
  | x :: σ, .box q dg :: ρ, p, h => ⟨by
      obtain ⟨e, h1, h2, l, i, h3, h4, h5⟩ := h.1
      exact ⟨e, h1, n q _ h3 p.1 h2, l, i, t q _ h3 p.1, h4, h5.mono eb⟩, env_apart eb t n p.2 h.2⟩
  | x :: σ, .lat q ds :: ρ, p, h => ⟨by
      obtain ⟨e, h1, h2, vs, h3, h4⟩ := h.1
      exact ⟨e, h1, n q _ h3 p.1 h2, vs, t q _ h3 p.1, h4.mono eb⟩, env_apart eb t n p.2 h.2⟩
  | [], _ :: _, _, h => h.elim
  | _ :: _, [], _, h => h.elim
/-- no own list of unknown place -/
def noO : Rho → Bool
  | [] => true
  | .own _ :: _ => false
  | _ :: ρ => noO ρ
theorem apart_new {B H0 H : Hp} {D : Addr} (hD : H D = none) : ∀ {σ : Slots} {ρ : Rho}, noO ρ = true → EnvOk B H0 H σ ρ → apart ρ D
  | [], [], _, _ => trivial
  | x :: σ, .any :: ρ, p, h => apart_new hD (ρ := ρ) p h.2
  | x :: σ, .dat d :: ρ, p, h => apart_new hD (ρ := ρ) p h.2
  | x :: σ, .raw v :: ρ, p, h => apart_new hD (ρ := ρ) p h.2
  | x :: σ, .dct f :: ρ, p, h => apart_new hD (ρ := ρ) p h.2
  | x :: σ, .own _ :: ρ, p, h => by cases p
  | x :: σ, .box q dg :: ρ, p, h => ⟨(by
      obtain ⟨e, h1, h2, l, i, h3, h4, h5⟩ := h.1
      intro z
      subst z
      rw [hD] at h3
      cases h3), apart_new hD (ρ := ρ) p h.2⟩
  | x :: σ, .lat q ds :: ρ, p, h => ⟨(by
      obtain ⟨e, h1, h2, vs, h3, h4⟩ := h.1
      intro z
      subst z
      rw [hD] at h3
      cases h3), apart_new hD (ρ := ρ) p h.2⟩
  | [], _ :: _, _, h => h.elim
  | _ :: _, [], _, h => h.elim
theorem wipeR_length (ρ : Rho) : ∀ vs : List Nat, (wipeR ρ vs).length = ρ.length
  | [] => rfl
  | v :: vs => by
    unfold wipeR
    rw [List.length_set, wipeR_length ρ vs]
theorem wipeR_at (ρ : Rho) : ∀ (vs : List Nat) (i : Nat), (wipeR ρ vs)[i]? = if i ∈ vs then (if i < ρ.length then some .any else none) else ρ[i]?
  | [], i => by simp [wipeR]
  | v :: vs, i => by
    unfold wipeR
    have hl := wipeR_length ρ vs
    have ih := wipeR_at ρ vs i
    by_cases hv : v = i
    · subst hv
      rw [if_pos (by simp)]
      by_cases hlt : v < ρ.length
      · rw [List.getElem?_set_self (by rw [hl]; exact hlt), if_pos hlt]
      · rw [if_neg hlt, List.getElem?_eq_none (by rw [List.length_set, hl]; omega)]
    · rw [List.getElem?_set_ne hv, ih]
      by_cases hm : i ∈ vs
      · rw [if_pos hm, if_pos (List.mem_cons_of_mem _ hm)]
      · rw [if_neg hm, if_neg (by simp [hm]; exact fun q => hv q.symm)]
theorem env_iff {B H0 H : Hp} : ∀ {σ : Slots} {ρ : Rho}, EnvOk B H0 H σ ρ ↔ σ.length = ρ.length ∧ ∀ (i : Nat) (x : Option V) (s : Sv), σ[i]? = some x → ρ[i]? = some s → SvOk B H0 H x s
  | [], [] => ⟨fun _ => ⟨rfl, fun i x s h => by simp at h⟩, fun _ => trivial⟩
  | x :: σ, s :: ρ => by
    constructor
    · intro h
      obtain ⟨h1, h2⟩ := env_iff.mp h.2
      refine ⟨by rw [List.length_cons, List.length_cons, h1], fun i y t hy ht => ?_⟩
      cases i with
      | zero =>
        cases (show some x = some y from hy)
        cases (show some s = some t from ht)
        exact h.1
      | succ i => exact h2 i y t (by simpa using hy) (by simpa using ht)
    · intro h
      exact ⟨h.2 0 x s rfl rfl, env_iff.mpr ⟨by have := h.1; simpa using this, fun i y t hy ht => h.2 (i + 1) y t (by simpa using hy) (by simpa using ht)⟩⟩
  | [], _ :: _ => ⟨fun h => h.elim, fun h => by have := h.1; simp at this⟩
  | _ :: _, [] => ⟨fun h => h.elim, fun h => by have := h.1; simp at this⟩
theorem env_unwipe {B H0 H : Hp} {σ : Slots} {ρ : Rho} {vs : List Nat} (h : EnvOk B H0 H (wipe σ vs) ρ) (hw : wipeR ρ vs = ρ) : EnvOk B H0 H σ ρ := by
  obtain ⟨h1, h2⟩ := env_iff.mp h
  refine env_iff.mpr ⟨by rw [← h1, wipe_length], fun i x s hx hs => ?_⟩
  by_cases hm : i ∈ vs
  · have e := wipeR_at ρ vs i
    rw [hw, if_pos hm, if_pos (List.getElem?_eq_some_iff.mp hs).1, hs] at e
    cases e
    trivial
  · exact h2 i x s (by rw [wipe_at, if_neg hm]; exact hx) hs
/-- the frozen part grows; what stands apart from the lists that may change stands -/
structure Lf (ρ : Rho) (H0 H H0' H' : Hp) : Prop where
  b : Ex H0 H0'
  f : ∀ a o, apart ρ a → H a = some o → H' a = some o ∧ (H0 a = none → H0' a = none)
theorem Lf.of {ρ : Rho} {H0 H H0' H' : Hp} (l : Le H0 H H0' H') : Lf ρ H0 H H0' H' := ⟨l.b, fun a o _ h => ⟨l.t a o h, l.n a o h⟩⟩
theorem Lf.trans {ρ : Rho} {H0 H H0' H' H0'' H'' : Hp} (a : Lf ρ H0 H H0' H') (b : Lf ρ H0' H' H0'' H'') : Lf ρ H0 H H0'' H'' :=
  ⟨a.b.trans b.b, fun x o p h => ⟨(b.f x o p (a.f x o p h).1).1, fun z => (b.f x o p (a.f x o p h).1).2 ((a.f x o p h).2 z)⟩⟩
/-- a def whose first argument is the box -/
def spB (n : Nat) (f : List PyData → (PyData → Prop) → Prop) : Sp := fun vs H Q _ => ∃ H0 p dg ws ds R, vs = .ref p :: ws ∧ BoxOk H0 H p dg ∧ Ex H0 H ∧ DqAll H0 ds ws ∧ ds.length = n ∧ f ds R ∧
  ∀ d v H0' H', R d → Le H0 (cut H p) H0' (cut H' p) → BoxOk H0' H' p dg → Dq H0' d v → Q v H'
section
variable (B0 B : Hp)
def Ef (te : TE) (ρ : Rho) (R : PyData → Prop) : Prop := ∀ H0 H σ, Eok B0 B H0 H σ ρ → ∀ Q : VK, (∀ d v H0' H', R d → Lf ρ H0 H H0' H' → Eok B0 B H0' H' σ ρ → Dq H0' d v → Q v H') → te σ H Q
def EfA (ta : TA) (ρ : Rho) (R : List PyData → Prop) : Prop := ∀ H0 H σ, Eok B0 B H0 H σ ρ → ∀ Q : List V → Hp → Prop, (∀ ds vs H0' H', R ds → Lf ρ H0 H H0' H' → Eok B0 B H0' H' σ ρ → DqAll H0' ds vs → Q vs H') → ta σ H Q
def Sf (t : TS) (ρ : Rho) (N : Rho → Prop) (R : PyData → Rho → Prop) : Prop := ∀ H0 H σ, Eok B0 B H0 H σ ρ → ∀ D : Ends, (∀ ρ' H0' H' σ', N ρ' → Ex H0 H0' → Eok B0 B H0' H' σ' ρ' → D.nx σ' H') →
  (∀ d ρ' v H0' H' σ', R d ρ' → Eok B0 B H0' H' σ' ρ' → Dq H0' d v → D.rt v H') → t D σ H
end
section
variable {B0 B : Hp} {ρ ρ' : Rho} {d e z : PyData} {ds : List PyData} {ta tb te tc : TE} {tt tu : TT} {K : PySem.W.Frag} {α β : Type} {R R1 Rq : PyData → Prop}
theorem ef_ed (h : Ed B0 B te ρ d) (k : R d) : Ef B0 B te ρ R := fun H0 H σ E Q q => h H0 H σ E _ fun v H1 H2 l hv => q d v H1 H2 k (.of l) (E.leE l) hv
theorem ef_op {r : R2} (ha : Ef B0 B ta ρ R1) (hb : Ef B0 B tb ρ Rq) (hr : ∀ d e, R1 d → Rq e → ∃ z, RD r d e z ∧ R z) : Ef B0 B (tOp r ta tb) ρ R := fun H0 H σ E Q q =>
  ha H0 H σ E _ fun d x H1 H2 k1 l1 E1 hx => hb H1 H2 σ E1 _ fun e y H3 H4 k2 l2 E2 hy => by
    obtain ⟨z, h, k⟩ := hr d e k1 k2
    exact h H3 H4 x y E2.le.w (hx.mono l2.b) hy Q fun v H5 H6 l3 hv => q z v H5 H6 k ((l1.trans l2).trans (.of l3)) (E2.leE l3) hv
theorem ef_cb1 {r : List V → Hp → VK → Prop} (ha : Ef B0 B ta ρ R1) (hr : ∀ d, R1 d → ∃ z, RCd r [d] z ∧ R z) : Ef B0 B (tCB r (tCons ta tNil)) ρ R := fun H0 H σ E Q q =>
  ha H0 H σ E _ fun d x H1 H2 k1 l1 E1 hx => by
    obtain ⟨z, h, k⟩ := hr d k1
    exact h H1 H2 [x] E1.le.w ⟨hx, trivial⟩ Q fun v H5 H6 l3 hv => q z v H5 H6 k (l1.trans (.of l3)) (E1.leE l3) hv
theorem efa_nil : EfA B0 B tNil ρ (fun ds => ds = []) := fun H0 H σ E Q q => q [] [] H0 H rfl (.of (.refl E.le.w)) E trivial
theorem efa_cons {tr : TA} {Rs : List PyData → Prop} (ha : Ef B0 B ta ρ R1) (hr : EfA B0 B tr ρ Rs) : EfA B0 B (tCons ta tr) ρ (fun ds => ∃ d es, ds = d :: es ∧ R1 d ∧ Rs es) := fun H0 H σ E Q q =>
  ha H0 H σ E _ fun d x H1 H2 k1 l1 E1 hx => hr H1 H2 σ E1 _ fun es vs H3 H4 k2 l2 E2 hvs => q (d :: es) (x :: vs) H3 H4 ⟨d, es, rfl, k1, k2⟩ (l1.trans l2) E2 ⟨hx.mono l2.b, hvs⟩
theorem ef_lst {t : TA} {Rs : List PyData → Prop} (h : EfA B0 B t ρ Rs) (hl : ∀ ds, Rs ds → ds.length ≤ 100000 ∧ R (.list ds)) : Ef B0 B (tLst t) ρ R := fun H0 H σ E Q q =>
  h H0 H σ E _ fun ds vs H1 H2 k l1 E1 hv => ⟨sz5 (by rw [hv.len]; exact (hl ds k).1), fun p hp => by
    have l := Le.new (o := .lst vs) E1.le.w hp
    exact q _ _ _ _ (hl ds k).2 (l1.trans (.of l)) (E1.leE l) ⟨p, _, rfl, upd_same, hv.mono l.b⟩⟩
theorem ef_tup {t : TA} {Rs : List PyData → Prop} (h : EfA B0 B t ρ Rs) (hl : ∀ ds, Rs ds → ds.length ≤ 100000 ∧ R (.tuple ds)) : Ef B0 B (tTup t) ρ R := fun H0 H σ E Q q =>
  h H0 H σ E _ fun ds vs H1 H2 k l1 E1 hv => ⟨sz5 (by rw [hv.len]; exact (hl ds k).1), fun p hp => by
    have l := Le.new (o := .tup vs) E1.le.w hp
    exact q _ _ _ _ (hl ds k).2 (l1.trans (.of l)) (E1.leE l) ⟨p, _, rfl, upd_same, hv.mono l.b⟩⟩
theorem ef_tupL {Rs : List PyData → Prop} (h : Ef B0 B te ρ (fun d => ∃ ds, d = .list ds ∧ Rs ds)) (hl : ∀ ds, Rs ds → R (.tuple ds)) : Ef B0 B (tCB (fun xs H Q => ∃ p ys, xs = [V.ref p] ∧ ((SqL K H p ys ∧ ∀ (l : Addr), H l = none → Q (V.ref l) (upd H l (HO.tup ys))) ∨ SqT K H p ys ∧ Q (V.ref p) H)) (tCons te tNil)) ρ R := fun H0 H σ E Q q =>
  h H0 H σ E _ fun d x H1 H2 k l1 E1 hx => by
    obtain ⟨ds, rfl, k⟩ := k
    obtain ⟨a, vs, rfl, h1, h2⟩ := hx
    refine ⟨a, vs, rfl, .inl ⟨SqL.of (E1.le.w a _ h1), fun p hp => ?_⟩⟩
    have l := Le.new (o := .tup vs) E1.le.w hp
    exact q _ _ _ _ (hl ds k) (l1.trans (.of l)) (E1.leE l) ⟨p, _, rfl, upd_same, h2.mono l.b⟩
theorem env_back {B H0 H : Hp} {σ : Slots} {i : Nat} {s : Sv} {x : Option V} (h : EnvOk B H0 H σ (ρ.set i .any)) (hi : ρ[i]? = some s) (hx : σ[i]? = some x) (hs : SvOk B H0 H x s) : EnvOk B H0 H σ ρ := by
  have e := h.set hs i
  rw [List.set_set] at e
  have e1 : σ.set i x = σ := by
    apply List.ext_getElem?
    intro j
    by_cases q : i = j
    · subst q
      rw [List.getElem?_set_self (List.getElem?_eq_some_iff.mp hx).1, hx]
    · rw [List.getElem?_set_ne q]
  have e2 : ρ.set i s = ρ := by
    apply List.ext_getElem?
    intro j
    by_cases q : i = j
    · subst q
      rw [List.getElem?_set_self (List.getElem?_eq_some_iff.mp hi).1, hi]
    · rw [List.getElem?_set_ne q]
  rw [e1, e2] at e
  exact e
theorem apart_of_set {a p : Addr} {dg : List Int} : ∀ {ρ : Rho} {i : Nat}, ρ[i]? = some (.box p dg) → apart ρ a → p ≠ a
  | [], _, h, _ => by simp at h
  | s :: ρ, 0, h, k => by
    cases (show some s = some (Sv.box p dg) from h)
    exact k.1
  | s :: ρ, i + 1, h, k => by
    have h' : ρ[i]? = some (.box p dg) := by simpa using h
    cases s with
    | own _ => exact k.elim
    | box _ _ => exact apart_of_set (ρ := ρ) h' k.2
    | lat _ _ => exact apart_of_set (ρ := ρ) h' k.2
    | any => exact apart_of_set (ρ := ρ) h' k
    | dat _ => exact apart_of_set (ρ := ρ) h' k
    | raw _ => exact apart_of_set (ρ := ρ) h' k
    | dct _ => exact apart_of_set (ρ := ρ) h' k
/-- a call with the box -/
theorem ef_box {f : List PyData → (PyData → Prop) → Prop} {n i : Nat} {p : Addr} {dg : List Int} {tr : TA} {E0' : XK} (h : ρ[i]? = some (.box p dg)) (hap : apart (ρ.set i .any) p) (ha : EdA B0 B tr ρ ds) (hn : ds.length = n) (hf : f ds R) : Ef B0 B (tCall (spB n f) [] E0' (tCons (tVar i) tr)) ρ R := fun H0 H σ E Q q => by
  obtain ⟨x, hx, rfl, hB, hb0⟩ := E.env.get h
  refine ⟨_, hx, ha H0 H σ E _ fun ws H1 H2 l hw => ?_⟩
  have E1 := E.leE l
  obtain ⟨x', hx', e', hB', hb⟩ := E1.env.get h
  rw [hx] at hx'
  cases hx'
  show spB n f (_ ++ []) H2 Q _
  rw [List.append_nil]
  refine ⟨H1, p, dg, ws, ds, R, rfl, hb, E1.le.w, hw, hn, hf, fun d v H3 H4 hR lx bx hd => q d v H3 H4 hR ?_ ⟨?_, ?_⟩ hd⟩
  · refine (Lf.of l).trans ⟨lx.b, fun a o pa ha => ?_⟩
    have hne : a ≠ p := fun z => apart_of_set h pa z.symm
    have h1 := lx.t a o (cut_some ha hne)
    rw [cut_ne hne] at h1
    exact ⟨h1, fun z => lx.n a o (cut_some ha hne) z⟩
  · have hne : ∀ a o, B a = some o → a ≠ p := fun a o ha z => by subst z; rw [hB] at ha; cases ha
    refine ⟨E1.le.b.trans lx.b, fun a o ha => ?_, lx.w.trans ex_cut, fun a o ha h0 => ?_⟩
    · have h1 := lx.t a o (cut_some (E1.le.t a o ha) (hne a o ha))
      rw [cut_ne (hne a o ha)] at h1
      exact h1
    · exact lx.n a o (cut_some (E1.le.t a o ha) (hne a o ha)) (E1.le.n a o ha h0)
  · refine env_back (i := i) (x := some (.ref p)) (env_apart (a := p) lx.b (fun b o hbo hne => ?_) (fun b o hbo hne h0 => ?_) hap (env_any i E1.env)) h hx ⟨rfl, hB, bx⟩
    · have h1 := lx.t b o (cut_some hbo hne)
      rw [cut_ne hne] at h1
      exact h1
    · exact lx.n b o (cut_some hbo hne) h0
theorem ef_lc {wi : TI} {g : TG} {vs : List Nat} {L : List α} {emb : α → PyData} (Re : α → PyData → Prop) (h : EdI B0 B wi ρ L emb) (hz : L.length ≤ 90000) (hno : noO ρ = true) (hw : wipeR ρ vs = ρ)
    (hs : ∀ (i : Nat) (x : α), L[i]? = some x → ∃ ρ2, Gd B0 B g ρ (emb x) ρ2 vs ∧ wipeR ρ2 vs = ρ ∧ (∀ a, apart ρ a → apart ρ2 a) ∧ Ef B0 B te ρ2 (Re x))
    (hR : ∀ ds : List PyData, ds.length = L.length → (∀ (j : Nat) (d : PyData) (x : α), ds[j]? = some d → L[j]? = some x → Re x d) → R (.list ds)) :
    Ef B0 B (tLc wi g tYes te vs) ρ R := fun H0 H σ E Q q =>
  h H0 H σ E _ fun J H1 H2 G Y l w hG hY D hD => by
    have E1 := E.leE l
    have apD : apart ρ D := apart_new hD hno E1.env
    have hBD : B D = none := Evl.fresh_back E1.le.t hD
    have h1D : H1 D = none := Evl.fresh_back E1.le.w hD
    -- the new list may change
    have putD : ∀ {Ha Hc : Hp} {o : HO} {σ2 : Slots}, Eok B0 B Ha Hc σ2 ρ → Ha D = none → Eok B0 B Ha (upd Hc D o) σ2 ρ := fun E2 h0 =>
      ⟨⟨E2.le.b, Evl.Ex.mut E2.le.t hBD, Evl.Ex.mut E2.le.w h0, E2.le.n⟩, env_apart (a := D) .rfl' (fun b o hb hne => by rw [upd_ne hne]; exact hb) (fun _ _ _ _ z => z) apD E2.env⟩
    have Ew : Eok B0 B H1 H2 (wipe σ vs) ρ := ⟨E1.le, by have := E1.env.wipe vs; rw [hw] at this; exact this⟩
    refine lc_it w (fun i Hc => ∃ Ha acc out, Eok B0 B Ha Hc (wipe σ vs) ρ ∧ Lf ρ H1 H2 Ha Hc ∧ Ha D = none ∧ Hc D = some (.lst acc) ∧ DqAll Ha out acc ∧ out.length = i ∧ ∀ (j : Nat) (d : PyData) (x : α), out[j]? = some d → L[j]? = some x → Re x d)
      ⟨H1, [], [], putD Ew h1D, ⟨.rfl', fun a o pa ha => ⟨by rw [upd_ne (fun z => by subst z; rw [hD] at ha; cases ha)]; exact ha, id⟩⟩, h1D, upd_same, trivial, rfl, fun j d x hj => by simp at hj⟩ (fun i Hc hi ⟨Ha, acc, out, p1, p2, _⟩ => hG Hc (p2.b.trans p1.le.w)) (fun i x Hc H3 hi p y => ?_) (fun Hc p => ?_)
    · obtain ⟨Ha, acc, out, p1, p2, p3, p4, p5, p6, p7⟩ := p
      obtain ⟨xi, hxi⟩ : ∃ xi, L[i]? = some xi := ⟨L[i], List.getElem?_eq_getElem hi⟩
      obtain ⟨Ha', l1, hx⟩ := hY i Ha Hc x H3 hi p2.b p1.le.w y (emb xi) ⟨xi, hxi, rfl⟩
      obtain ⟨ρ2, g1, w2, ap2, e1⟩ := hs i xi hxi
      refine g1 Ha' H3 _ x (p1.leE l1) hx _ fun σ2 E2 ws => ⟨ws.trans wipe_idem, ?_⟩
      simp only [tYes, if_true]
      refine e1 Ha' H3 σ2 E2 _ fun d v Hd H5 hd l3 E5 hv => ?_
      have h3 : H3 D = some (.lst acc) := l1.t D _ p4
      obtain ⟨h5, h5n⟩ := l3.f D _ (ap2 D apD) h3
      have hdD : Hd D = none := h5n (l1.n D _ p4 p3)
      have E6 : Eok B0 B Hd H5 (wipe σ vs) ρ := ⟨E5.le, by
        have := E5.env.wipe vs
        rw [w2, ws, wipe_idem] at this
        exact this⟩
      refine ⟨acc, h5, Nat.lt_of_lt_of_le (by rw [p5.len, p6]; omega : acc.length < 100000) (by decide), Hd, acc ++ [v], out ++ [d], putD E6 hdD, ⟨(p2.b.trans l1.b).trans l3.b, fun a o pa ha => ?_⟩, hdD, upd_same, DqAll.snoc hv ((p5.mono l1.b).mono l3.b), by rw [List.length_append, p6]; rfl, fun j d' x' hj hx' => ?_⟩
      · obtain ⟨q1, q2⟩ := p2.f a o pa ha
        obtain ⟨q3, q4⟩ := l3.f a o (ap2 a pa) (l1.t a o q1)
        exact ⟨by rw [upd_ne (fun z => by subst z; rw [hD] at ha; cases ha)]; exact q3, fun z => q4 (l1.n a o q1 (q2 z))⟩
      · by_cases hji : j < out.length
        · rw [List.getElem?_append_left hji] at hj
          exact p7 j d' x' hj hx'
        · have hj2 : j < (out ++ [d]).length := (List.getElem?_eq_some_iff.mp hj).1
          rw [List.length_append] at hj2
          have hji2 : j = out.length := by have : [d].length = 1 := rfl; omega
          subst hji2
          rw [List.getElem?_append_right (Nat.le_refl _), Nat.sub_self] at hj
          cases (show some d = some d' from hj)
          rw [p6, hxi] at hx'
          cases hx'
          exact hd
    · obtain ⟨Ha, acc, out, p1, p2, p3, p4, p5, p6, p7⟩ := p
      have eU : Ex Ha (upd Ha D (.lst acc)) := Evl.Ex.new p3
      have wU : Ex (upd Ha D (.lst acc)) Hc := fun a o ha => by
        by_cases qa : a = D
        · subst qa
          rw [upd_same] at ha
          rw [p4]
          exact ha
        · rw [upd_ne qa] at ha
          exact p1.le.w a o ha
      have lU : ∀ b o, Hc b = some o → b ≠ D → Ha b = none → upd Ha D (.lst acc) b = none := fun b o hb hne h0 => by
        rw [upd_ne hne]
        exact h0
      refine q (.list out) (.ref D) (upd Ha D (.lst acc)) Hc (hR out p6 p7) ((Lf.of l).trans ⟨p2.b.trans eU, fun a o pa ha => ?_⟩) ⟨⟨p1.le.b.trans eU, p1.le.t, wU, fun a o ha h0 => ?_⟩, ?_⟩ ⟨D, acc, rfl, upd_same, p5.mono eU⟩
      · obtain ⟨q1, q2⟩ := p2.f a o pa ha
        have hne : a ≠ D := fun z => by subst z; rw [hD] at ha; cases ha
        exact ⟨q1, fun z => lU a o q1 hne (q2 z)⟩
      · have hne : a ≠ D := fun z => by subst z; rw [hBD] at ha; cases ha
        exact lU a _ (p1.le.t a o ha) hne (p1.le.n a o ha h0)
      · have e3 := env_apart (a := D) eU (fun _ _ hb _ => hb) lU apD p1.env
        exact env_unwipe e3 hw
end
section
variable {B0 B : Hp} {ρ ρ' : Rho} {d e z : PyData} {ds : List PyData} {ta tb te tc : TE} {tt tu : TT} {K : PySem.W.Frag} {α β : Type} {N : Rho → Prop} {R : PyData → Rho → Prop} {R1 : PyData → Prop} {t u : TS}
theorem sf_seq (h : Sf B0 B t ρ (fun ρ1 => Sf B0 B u ρ1 N R) R) : Sf B0 B (tSeq t u) ρ N R := fun H0 H σ E D n r =>
  h H0 H σ E { D with nx := u D } (fun ρ1 H1 H2 σ1 hu e E1 => hu H1 H2 σ1 E1 D (fun ρ2 H3 H4 σ2 k e2 E2 => n ρ2 H3 H4 σ2 k (e.trans e2) E2) r) r
theorem sf_asg {i : Nat} (h : Ef B0 B te ρ R1) (k : ∀ d, R1 d → N (ρ.set i (.dat d))) : Sf B0 B (tAsg te (gName i)) ρ N R := fun H0 H σ E D n r =>
  h H0 H σ E _ fun d v H1 H2 hd l E1 hv => n _ H1 H2 _ (k d hd) l.b ⟨E1.le, E1.env.set (s := .dat d) ⟨v, rfl, hv⟩ i⟩
theorem sf_asgE {i : Nat} (h : Ed B0 B te ρ d) (k : N (ρ.set i (.dat d))) : Sf B0 B (tAsg te (gName i)) ρ N R := sf_asg (R1 := fun e => e = d) (ef_ed h rfl) fun e he => by subst he; exact k
theorem sf_ret (h : Ef B0 B te ρ R1) (k : ∀ d, R1 d → R d ρ) : Sf B0 B (tRet te) ρ N R := fun H0 H σ E D n r => h H0 H σ E _ fun d v H1 H2 hd l E1 hv => r d ρ v H1 H2 σ (k d hd) E1 hv
theorem sf_if {b : Bool} (h : EdT B0 B tt ρ b) (h1 : b = true → Sf B0 B t ρ N R) (h2 : b = false → Sf B0 B u ρ N R) : Sf B0 B (tIfS tt t u) ρ N R := fun H0 H σ E D n r =>
  h H0 H σ E _ fun H1 H2 l => by
    cases b with
    | true => exact h1 rfl H1 H2 σ (E.leE l) D (fun ρ2 H3 H4 σ2 k e2 E2 => n ρ2 H3 H4 σ2 k (l.b.trans e2) E2) r
    | false => exact h2 rfl H1 H2 σ (E.leE l) D (fun ρ2 H3 H4 σ2 k e2 E2 => n ρ2 H3 H4 σ2 k (l.b.trans e2) E2) r
theorem sf_next (k : N ρ) : Sf B0 B tNext ρ N R := fun H0 H σ E D n r => n ρ H0 H σ k .rfl' E
theorem sf_mid {M : Rho → Prop} (h : Sf B0 B t ρ M R) (k : ∀ ρ1, M ρ1 → N ρ1) : Sf B0 B t ρ N R := fun H0 H σ E D n r => h H0 H σ E D (fun ρ1 H1 H2 σ1 m => n ρ1 H1 H2 σ1 (k ρ1 m)) r
/-- x = [], a list that may change, at a known place -/
theorem sf_new {i : Nat} (hno : noO ρ = true) (k : ∀ p, apart ρ p → N (ρ.set i (.lat p []))) : Sf B0 B (tAsg (tLst tNil) (gName i)) ρ N R := fun H0 H σ E D n r =>
  ⟨by decide, fun p hp => by
    have h0 : H0 p = none := Evl.fresh_back E.le.w hp
    have l : Le H0 H H0 (upd H p (.lst [])) := ⟨.rfl', Evl.Ex.new hp, E.le.w.trans (Evl.Ex.new hp), fun _ _ _ h => h⟩
    exact n _ H0 _ _ (k p (apart_new hp hno E.env)) .rfl' ⟨E.le.trans l, (E.leE l).env.set (s := .lat p []) ⟨rfl, Evl.fresh_back E.le.t hp, h0, [], upd_same, trivial⟩ i⟩⟩
/-- x = [digits, 0] -/
theorem sf_box {i : Nat} {dg : List Int} (hno : noO ρ = true) (h : Ef B0 B te ρ (fun d => d = .list (dg.map PyData.int))) (k : ∀ p, apart ρ p → N (ρ.set i (.box p dg))) : Sf B0 B (tAsg (tLst (tCons te (tCons (tC (.int 0)) tNil))) (gName i)) ρ N R := fun H0 H σ E D n r =>
  h H0 H σ E _ fun d v H1 H2 hd l E1 hv => by
    subst hd
    refine ⟨by show 2 ≤ sizeLine; decide, fun p hp => ?_⟩
    have h0 : H1 p = none := Evl.fresh_back E1.le.w hp
    have l2 : Le H1 H2 H1 (upd H2 p (.lst [v, .int 0])) := ⟨.rfl', Evl.Ex.new hp, E1.le.w.trans (Evl.Ex.new hp), fun _ _ _ h => h⟩
    exact n _ H1 _ _ (k p (apart_new hp hno E1.env)) l.b ⟨E1.le.trans l2, (E1.leE l2).env.set (s := .box p dg) ⟨rfl, Evl.fresh_back E1.le.t hp, h0, v, 0, upd_same, Int.le_refl 0, hv⟩ i⟩
theorem sf_app {i : Nat} {p : Addr} (hi : ρ[i]? = some (.lat p ds)) (hap : apart (ρ.set i .any) p) (h : Ef B0 B te ρ R1) (hz : ds.length < 100000) (k : ∀ d, R1 d → N (ρ.set i (.lat p (ds ++ [d])))) :
    Sf B0 B (tDrop (tBM K "list" rAppend (tVar i) (tCons te tNil))) ρ N R := fun H0 H σ E D n r => by
  obtain ⟨x, hx, rfl, h1, h2, vs, h3, h4⟩ := E.env.get hi
  refine ⟨_, hx, .inl ⟨rfl, vs, SqL.of h3⟩, h H0 H σ E _ fun d v H1 H2 hd l E1 hv => ?_⟩
  obtain ⟨x', hx', e', k1, k2, us, k3, k4⟩ := E1.env.get hi
  refine ⟨p, us, v, rfl, rfl, k3, Nat.lt_of_lt_of_le (by rw [k4.len]; exact hz) (by decide : 100000 ≤ sizeLine), n _ H1 _ _ (k d hd) l.b ⟨⟨E1.le.b, Evl.Ex.mut E1.le.t k1, Evl.Ex.mut E1.le.w k2, E1.le.n⟩, ?_⟩⟩
  have e1 := env_apart (a := p) (H' := upd H2 p (.lst (us ++ [v]))) .rfl' (fun b o hb hne => by rw [upd_ne hne]; exact hb) (fun _ _ _ _ z => z) hap (env_any i E1.env)
  have e2 := e1.set (x := some (.ref p)) (s := .lat p (ds ++ [d])) ⟨rfl, k1, k2, us ++ [v], upd_same, DqAll.snoc hv k4⟩ i
  rw [List.set_set] at e2
  have e3 : σ.set i (some (.ref p)) = σ := by
    apply List.ext_getElem?
    intro j
    by_cases q : i = j
    · subst q
      rw [List.getElem?_set_self (List.getElem?_eq_some_iff.mp hx).1, hx]
    · rw [List.getElem?_set_ne q]
  rw [e3] at e2
  exact e2
theorem sf_for {wi : TI} {g : TG} {L : List α} {emb : α → PyData} (h : EdI B0 B wi ρ L emb) (Inv : Nat → Rho → Prop) (h0 : Inv 0 ρ)
    (hs : ∀ (i : Nat) (x : α) ρ1, L[i]? = some x → Inv i ρ1 → ∃ ρ2, Gd B0 B g ρ1 (emb x) ρ2 (List.range 40) ∧ Sf B0 B t ρ2 (Inv (i + 1)) R) (hd : ∀ ρ1, Inv L.length ρ1 → N ρ1) : Sf B0 B (tFor wi g t) ρ N R := fun H0 H σ E D n r =>
  h H0 H σ E _ fun J H1 H2 G Y l w hG hY => by
    refine for_it w (fun i σ1 Hc => ∃ ρ1 Ha, Inv i ρ1 ∧ Eok B0 B Ha Hc σ1 ρ1 ∧ Ex H1 Ha) ⟨ρ, H1, h0, E.leE l, .rfl'⟩ (fun i σ1 Hc hi ⟨ρ1, Ha, p1, p2, p3⟩ => hG Hc (p3.trans p2.le.w)) (fun i x σ1 Hc H3 hi ⟨ρ1, Ha, p1, p2, p3⟩ y => ?_) (fun σ1 Hc ⟨ρ1, Ha, p1, p2, p3⟩ => n ρ1 Ha Hc σ1 (hd ρ1 p1) (l.b.trans p3) p2)
    obtain ⟨xi, hxi⟩ : ∃ xi, L[i]? = some xi := ⟨L[i], List.getElem?_eq_getElem hi⟩
    obtain ⟨Ha', l1, hx⟩ := hY i Ha Hc x H3 hi p3 p2.le.w y (emb xi) ⟨xi, hxi, rfl⟩
    obtain ⟨ρ2, g1, s1⟩ := hs i xi ρ1 hxi p1
    refine g1 Ha' H3 σ1 x (p2.leE l1) hx _ fun σ2 E2 w2 => ?_
    exact s1 Ha' H3 σ2 E2 _ (fun ρ3 H5 H6 σ3 i3 e3 E3 => ⟨ρ3, H5, i3, E3, (p3.trans l1.b).trans e3⟩) r
/-- a list that may change, made a tuple -/
theorem ed_tupA {i : Nat} {p : Addr} (h : ρ[i]? = some (.lat p ds)) : Ed B0 B (tCB (fun xs H Q => ∃ p ys, xs = [V.ref p] ∧ ((SqL K H p ys ∧ ∀ (l : Addr), H l = none → Q (V.ref l) (upd H l (HO.tup ys))) ∨ SqT K H p ys ∧ Q (V.ref p) H)) (tCons (tVar i) tNil)) ρ (.tuple ds) := fun H0 H σ E Q q => by
  obtain ⟨x, hx, rfl, h1, h2, vs, h3, h4⟩ := E.env.get h
  refine ⟨_, hx, p, vs, rfl, .inl ⟨SqL.of h3, fun l hl => ?_⟩⟩
  have le := Le.new (o := .tup vs) E.le.w hl
  exact q _ _ _ le ⟨l, _, rfl, upd_same, h4.mono le.b⟩
/-- the body of a def whose first argument is the box -/
theorem sf_run {f : List PyData → (PyData → Prop) → Prop} {n : Nat} {t : TS} {N : List Str} {vs : List V} {H : Hp} {Q : VK} {E : XK} (h : spB n f vs H Q E)
    (hs : ∀ H0 B p dg ds R, f ds R → Sf H0 B t (.box p dg :: (ds.map Sv.dat ++ List.replicate (N.length - (n + 1)) .any)) (fun _ => False) (fun d ρ' => R d ∧ ρ'[0]? = some (.box p dg))) : t { nx := fun _ H' => Q .non H', rt := Q } (L2.start N vs) H := by
  obtain ⟨H0, p, dg, ws, ds, R, rfl, hb, w, hv, hn, hf, q⟩ := h
  have E0 : Eok H0 (cut H p) H0 H (L2.start N (.ref p :: ws)) (.box p dg :: (ds.map Sv.dat ++ List.replicate (N.length - (n + 1)) .any)) := by
    refine ⟨⟨.rfl', ex_cut, w, fun _ _ _ h => h⟩, ?_⟩
    unfold L2.start
    rw [List.length_cons, hv.len, hn]
    exact ⟨⟨rfl, cut_at, hb⟩, env_start (env_any_rep _) hv⟩
  refine hs H0 (cut H p) p dg ds R hf H0 H _ E0 _ (fun ρ' H1 H2 σ' e => e.elim) fun d ρ' v H1 H2 σ' ⟨hR, hbx⟩ E1 hd => ?_
  obtain ⟨x, hx, e, hB, hb2⟩ := E1.env.get hbx
  refine q d v H1 H2 hR ⟨E1.le.b, fun a o ha => ?_, fun a o ha => ?_, E1.le.n⟩ hb2 hd
  · have hne : a ≠ p := fun z => by subst z; rw [cut_at] at ha; cases ha
    exact cut_some (E1.le.t a o ha) hne
  · have hne : a ≠ p := fun z => by subst z; rw [hb2.1] at ha; cases ha
    exact cut_some (E1.le.w a o ha) hne
/-- for x in range(what is drawn) -/
theorem sf_forE {ta : TA} {j : Nat} {Pn : Nat → Prop} (h : EfA B0 B ta ρ (fun ds => ∃ n : Nat, ds = [.int n] ∧ n ≤ 100000 ∧ Pn n)) (Inv : Nat → Rho → Prop) (h0 : Inv 0 ρ)
    (hs : ∀ (n i : Nat) ρ1, Pn n → i < n → Inv i ρ1 → Sf B0 B t (ρ1.set j (.dat (.int (i : Nat)))) (Inv (i + 1)) R) (hd : ∀ n ρ1, Pn n → Inv n ρ1 → N ρ1) : Sf B0 B (tFor (iRng1 ta) (gName j) t) ρ N R := fun H0 H σ E D n r =>
  h H0 H σ E _ fun ds vs H1 H2 ⟨m, em, hm, pm⟩ l E1 hv => by
    subst em
    match vs, hv with
    | [x], hv =>
      cases (show x = V.int m from hv.1)
      refine ⟨m, rfl, by omega, by omega, ?_⟩
      rw [Int.toNat_natCast]
      refine for_it (n := m) (G := fun _ => True) (Y := YFn fun i => .int (0 + (i : Nat))) walk_range (fun i σ1 Hc => ∃ ρ1 Ha, Inv i ρ1 ∧ Eok B0 B Ha Hc σ1 ρ1 ∧ Ex H1 Ha) ⟨ρ, H1, h0, E1, .rfl'⟩ (fun _ _ _ _ _ => trivial) (fun i x σ1 Hc H3 hi ⟨ρ1, Ha, p1, p2, p3⟩ y => ?_) (fun σ1 Hc ⟨ρ1, Ha, p1, p2, p3⟩ => n ρ1 Ha Hc σ1 (hd m ρ1 pm p1) (l.b.trans p3) p2)
      obtain ⟨rfl, rfl⟩ := y
      refine hs m i ρ1 pm hi p1 Ha H3 _ ⟨p2.le, p2.env.set (s := .dat (.int (i : Nat))) ⟨_, rfl, ?_⟩ j⟩ _ (fun ρ3 H5 H6 σ3 i3 e3 E3 => ⟨ρ3, H5, i3, E3, p3.trans e3⟩) r
      show V.int (0 + (i : Int)) = V.int i
      rw [Int.zero_add]
/-- a def from data to one of some data -/
def spR (n : Nat) (f : List PyData → (PyData → Prop) → Prop) : Sp := fun vs H Q _ => ∃ H0 ds R, Ex H0 H ∧ DqAll H0 ds vs ∧ ds.length = n ∧ f ds R ∧ ∀ d v H0' H', R d → Le H0 H H0' H' → Dq H0' d v → Q v H'
theorem spR_len {f : List PyData → (PyData → Prop) → Prop} {ps : List Str} {vs : List V} {H : Hp} {Q : VK} {E : XK} (h : spR ps.length f vs H Q E) : vs.length = ps.length := by
  obtain ⟨H0, ds, R, w, hv, hn, hf, q⟩ := h
  rw [hv.len]
  exact hn
theorem spB_len {f : List PyData → (PyData → Prop) → Prop} {n : Nat} {vs : List V} {H : Hp} {Q : VK} {E : XK} (h : spB n f vs H Q E) : vs.length = n + 1 := by
  obtain ⟨H0, p, dg, ws, ds, R, rfl, hb, w, hv, hn, hf, q⟩ := h
  rw [List.length_cons, hv.len, hn]
theorem ef_callR {f : List PyData → (PyData → Prop) → Prop} {n : Nat} {t : TA} {E : XK} (h : EdA B0 B t ρ ds) (hf : f ds R1) (hn : ds.length = n := by rfl) : Ef B0 B (tCall (spR n f) [] E t) ρ R1 := fun H0 H σ Ek Q q =>
  h H0 H σ Ek _ fun vs H1 H2 l hv => by
    show spR n f (vs ++ []) H2 Q E
    rw [List.append_nil]
    exact ⟨H1, ds, R1, l.w, hv, hn, hf, fun d v H3 H4 hd l2 hz => q d v H3 H4 hd (.of (l.trans l2)) (Ek.leE (l.trans l2)) hz⟩
theorem sd_runR {f : List PyData → (PyData → Prop) → Prop} {n : Nat} {t : TS} {N : List Str} {vs : List V} {H : Hp} {Q : VK} {E : XK} (h : spR n f vs H Q E) (hs : ∀ H0 H ds R, f ds R → Sd H0 H t (startR N ds) (fun _ => False) R) : t { nx := fun _ H' => Q .non H', rt := Q } (L2.start N vs) H := by
  obtain ⟨H0, ds, R, w, hv, hn, hf, q⟩ := h
  exact hs H0 H ds R hf H0 H _ (eok_start w hv) _ (fun ρ' H1 H2 σ' e => e.elim) fun e v H1 H2 he l hz => q e v H1 H2 he l hz
end
end HW
end
section
/-! HWF6: the law's own defs: what it draws. -/
namespace HW
open PySem PySem.Spec PyProof.Rows L2
local macro_rules | `(tactic| walk_at "ed") => `(tactic| repeat' (first
  | exact ed_int | exact ed_str | exact ed_bl | exact ed_non | exact ea_nil | exact eo_none
  | exact ed_var rfl
  | with_reducible apply ea_cons
  | with_reducible apply ed_op
  | with_reducible apply ed_un
  | with_reducible apply ed_tupT
  | with_reducible apply ed_lstT
  | with_reducible apply et_test
  | with_reducible apply et_B
  | with_reducible apply et_andC
  | with_reducible apply et_orC
  | with_reducible apply et_not
  | with_reducible apply eo_some
  | with_reducible apply ed_callT
  | exact rd_add | exact rd_sub | exact rd_lt | exact rd_le | exact rd_gt | exact rd_ge | exact rd_isN | exact rd_notN | exact ru_neg
  | exact rd_ixT rfl
  | exact rd_ixT (at_rng (by assumption))
  | exact rd_ixT (at_ints (by assumption))
  | exact rd_ixT (at_pred (by assumption))
  | (show List.length _ = _; exact rfl)
  | (show List.length _ ≤ 100000; exact Nat.le_of_ble_eq_true rfl)
  | apply ed_tupT))
local macro_rules | `(tactic| walk_at "gd") => `(tactic| repeat' (first | exact gd_name (by decide) | exact gs_nil | with_reducible apply gs_cons | refine' gd_tup ?_ rfl))
variable {P : Program} {w : World} {K : PySem.W.Frag} {mg : Str → Option Value} {base : Heap} {CA CN CS : Addr}
theorem sd_end {B0 B H0 : Hp} {t : TS} {D : Ends} {σ : Slots} {H : Hp} {ρ : Rho} {R : PyData → Prop} (E : Eok B0 B H0 H σ ρ) (S : Sd B0 B t ρ (fun _ => False) R) (k : ∀ e v H1 H2, R e → Le B0 B H1 H2 → Dq H1 e v → D.rt v H2) : t D σ H :=
  S H0 H σ E D (fun _ _ _ _ e => e.elim) k
/-- the script's digits -/
def spDig (K : PySem.W.Frag) : Sp := fun vs H Q _ => ∃ (H0 : Hp) (a : Addr) (ns : List Int), Ex H0 H ∧ vs = [.ref a, .int 0, .int 60] ∧ SqL K H a (ns.map V.int) ∧ ∀ dg v H0' H', Le H0 H H0' H' → Dq H0' (listD dg) v → Q v H'
abbrev s__law_digits : Stmt := tp 54
theorem sc__law_digits : FnScope ["_law_script", "_law_first", "_law_last", "_law_digits_here", "_law_k", "_law_cell_here", "_law_place_here", "_law_seed"] ["_law_script", "_law_first", "_law_last"] (defScope s__law_digits) := ⟨rfl, rfl, rfl, by decide +kernel, rfl, by decide +kernel, by decide +kernel⟩
theorem ok__law_digits {f : Addr} {fd : FuncData} (F : Fun K "_law_digits" "_law_digits" s__law_digits f fd) (T : Txt K mg CA CN CS)
    (G__law_cell : FnF P w K mg base 1 "_law_cell" ["_law_script", "_law_k"] (spCell K)) : FnOk P w K mg base CX0 2 f fd ["_law_script", "_law_first", "_law_last"] (spDig K) := by
  refine F.ok sc__law_digits (fun vs H Q E h => ?_) (fun cdv A outer s H vs Q E hr h => ?_)
  · obtain ⟨_, _, _, _, rfl, _⟩ := h; rfl
  refine ⟨_, (pss_cons (ps_set (i := 3) sc__law_digits.nd rfl (Or.inl rfl) (pe_lst pa_nil))
 (pss_cons (ps_for PassesOwn.never rfl (pi_range2 rfl T.b_range (pa_cons (pv 1) (pa_cons (pv 2) pa_nil))) (pg_name (i := 4) sc__law_digits.nd rfl (Or.inl rfl))
  (pss_cons (ps_set (i := 5) sc__law_digits.nd rfl (Or.inl rfl) (pe_fn G__law_cell (hr.mono (by decide)) rfl (pa_cons (pv 0) (pa_cons (pv 4) pa_nil))))
 (pss_cons (ps_if (pt_cmpR op_lt (pv 5) pe_int (nomark _))
  (pss_one (ps_set (i := 5) sc__law_digits.nd rfl (Or.inl rfl) (pe_op op_sub pe_int (pe_op op_mul pe_int (pv 5)))))
  pss_nil)
 (pss_one (ps_if (pt_cmpR op_ge (pv 5) (pe_op op_pow pe_int pe_int) (nomark _))
  (pss_one (ps_for PassesOwn.never rfl (pi_range1 rfl T.b_range (pa_cons pe_int pa_nil)) (pg_name (i := 6) sc__law_digits.nd rfl (Or.inl rfl))
  (pss_one (ps_if (pt_cmpR op_gt (pv 5) pe_int (nomark _))
  (pss_cons (ps_expr (pe_bm PySem.F.plainAttrs_list PySem.F.slot_list_append PySem.F.type_list_append mt_append (pv 3) (pa_cons (pe_op op_mod (pe_callTy call_int1 rfl T.b_int (by decide +kernel) (pa_cons (pv 5) pa_nil)) pe_int) pa_nil)))
 (pss_one (ps_set (i := 5) sc__law_digits.nd rfl (Or.inl rfl) (pe_op op_fdiv (pv 5) pe_int))))
  pss_nil))))
  (pss_cons (ps_set (i := 7) sc__law_digits.nd rfl (Or.inl rfl) (pe_op op_mod (pe_callTy call_int1 rfl T.b_int (by decide +kernel) (pa_cons (pe_op op_add (pe_op op_add (pe_op op_mul (pv 5) pe_int) (pe_op op_mul (pv 4) pe_int)) pe_int) pa_nil)) pe_int))
 (pss_one (ps_for PassesOwn.never rfl (pi_range1 rfl T.b_range (pa_cons pe_int pa_nil)) (pg_name (i := 6) sc__law_digits.nd rfl (Or.inl rfl))
  (pss_cons (ps_set (i := 7) sc__law_digits.nd rfl (Or.inl rfl) (pe_op op_mod (pe_callTy call_int1 rfl T.b_int (by decide +kernel) (pa_cons (pe_op op_add (pe_op op_add (pe_op op_mul (pv 7) pe_int) (pe_op op_mul pe_int (pv 6))) pe_int) pa_nil)) pe_int))
 (pss_one (ps_expr (pe_bm PySem.F.plainAttrs_list PySem.F.slot_list_append PySem.F.type_list_append mt_append (pv 3) (pa_cons (pe_op op_mod (pe_callTy call_int1 rfl T.b_int (by decide +kernel) (pa_cons (pe_op op_fdiv (pv 7) pe_int) pa_nil)) pe_int) pa_nil)))))))))))))
 (pss_one (ps_ret (pv 3))))), ?_⟩
  obtain ⟨B0, a, ns, w0, rfl, hS, q⟩ := h
  have E0 : Eok B0 H B0 H [some (.ref a), some (.int 0), some (.int 60), none, none, none, none, none] [.raw (.ref a), .dat (natD 0), .dat (natD 60), .any, .any, .any, .any, .any] := ⟨.refl w0, rfl, ⟨_, rfl, rfl⟩, ⟨_, rfl, rfl⟩, trivial, trivial, trivial, trivial, trivial, trivial⟩
  show tSeq _ _ _ [some (.ref a), some (.int 0), some (.int 60), none, none, none, none, none] H
  refine sd_end E0 (R := fun d => ∃ dg, d = listD dg) ?_ (fun e v H1 H2 he l hz => by
    obtain ⟨dg, rfl⟩ := he
    exact q dg v H1 H2 l hz)
  refine sd_seq (sd_own ?_)
  refine sd_seq (sd_for (ei_rng2 (lo := 0) (n := 60) (by walk_at "ed") (by decide)) (fun i ρ1 => ∃ (dg : List Int) (a' b c s : Sv), dg.length ≤ 60 * i ∧ noOwn [s] = true ∧ ρ1 = [.raw (.ref a), .dat (natD 0), .dat (natD 60), .own (dg.map PyData.int), a', b, c, s]) ⟨[], .any, .any, .any, .any, Nat.le_refl _, rfl, rfl⟩ ?_ ?_)
  · rintro i k ρ1 hk ⟨dg, a', b, c, s, hl, hs, rfl⟩
    obtain ⟨rfl, hk⟩ := rng_at hk
    refine ⟨_, by walk_at "gd", ?_⟩
    refine sd_seq (sd_asg (ed_cell (k := 0 + k) hS rfl (ed_var rfl)) ?_)
    refine sd_seq (sd_mid (M := fun ρ1 => ∃ x, ρ1 = [.raw (.ref a), .dat (natD 0), .dat (natD 60), .own (dg.map PyData.int), .dat (natD (0 + k)), .dat (.int x), c, s]) ?_ ?_)
    · refine sd_if (by walk_at "ed") (fun _ => sd_asg (ed_op ed_int (ed_op ed_int (ed_var rfl) (rd_mul (.inl ⟨by decide, by decide⟩))) rd_sub) ⟨_, rfl⟩) fun _ => sd_next ⟨_, rfl⟩
    rintro ρ1 ⟨x, rfl⟩
    refine sd_if (et_test (ed_op (ed_var rfl) (ed_op ed_int ed_int (rd_pow ⟨by decide, by decide, by decide⟩)) rd_ge)) (fun _ => ?_) fun _ => ?_
    · refine sd_for (ei_rng1 (n := 60) (by walk_at "ed") (by decide)) (fun j ρ1 => ∃ (dg' : List Int) (x : Int) (c : Sv), dg'.length ≤ 60 * k + j ∧ ρ1 = [.raw (.ref a), .dat (natD 0), .dat (natD 60), .own (dg'.map PyData.int), .dat (natD (0 + k)), .dat (.int x), c, s]) ⟨dg, x, c, hl, rfl⟩ ?_ ?_
      · rintro j l ρ1 hj ⟨dg', y, c', hl', rfl⟩
        obtain ⟨rfl, hj⟩ := rng_at hj
        refine ⟨_, by walk_at "gd", ?_⟩
        refine sd_if (by walk_at "ed") (fun _ => ?_) fun _ => sd_next ⟨dg', y, .dat (.int (l : Nat)), by omega, rfl⟩
        refine sd_seq (sd_app (d := .int (y % 1000)) rfl (ed_op (ed_cb (by walk_at "ed") rc_intI) ed_int (rd_mod (by decide))) (noOwn_cons (s := s) (ρ := []) hs rfl) (by rw [List.length_map]; omega) ?_)
        refine sd_asg (ed_op (ed_var rfl) ed_int (rd_fdiv ⟨by decide, by decide⟩)) ⟨dg' ++ [y % 1000], y / 1000, .dat (.int (l : Nat)), by rw [List.length_append]; show _ + 1 ≤ _; omega, ?_⟩
        rw [List.map_append]
        rfl
      · rintro ρ1 ⟨dg', y, c', hl', rfl⟩
        exact ⟨dg', _, _, _, s, by simp at hl'; omega, hs, rfl⟩
    · refine sd_seq (sd_asg (ed_op (ed_cb (ea_cons (ed_op (ed_op (ed_op (ed_var rfl) ed_int (rd_mul (.inr ⟨by decide, by decide⟩))) (ed_op (ed_var rfl) ed_int (rd_mul (.inr ⟨by decide, by decide⟩))) rd_add) ed_int rd_add) ea_nil) rc_intI) ed_int (rd_mod (by decide))) ?_)
      refine sd_for (ei_rng1 (n := 12) (by walk_at "ed") (by decide)) (fun j ρ1 => ∃ (dg' : List Int) (y : Int) (c : Sv), dg'.length ≤ 60 * k + j ∧ ρ1 = [.raw (.ref a), .dat (natD 0), .dat (natD 60), .own (dg'.map PyData.int), .dat (natD (0 + k)), .dat (.int x), c, .dat (.int y)]) ⟨dg, _, c, hl, rfl⟩ ?_ ?_
      · rintro j l ρ1 hj ⟨dg', y, c', hl', rfl⟩
        obtain ⟨rfl, hj⟩ := rng_at hj
        refine ⟨_, by walk_at "gd", ?_⟩
        refine sd_seq (sd_asg (d := .int ((y * 16807 + 7 * (l : Int) + 1) % 2147483647)) (ed_op (ed_cb (ea_cons (ed_op (ed_op (ed_op (ed_var rfl) ed_int (rd_mul (.inr ⟨by decide, by decide⟩))) (ed_op ed_int (ed_var rfl) (rd_mul (.inl ⟨by decide, by decide⟩))) rd_add) ed_int rd_add) ea_nil) rc_intI) ed_int (rd_mod (by decide))) ?_)
        refine sd_app (d := .int ((y * 16807 + 7 * (l : Int) + 1) % 2147483647 / 997 % 1000)) rfl (ed_op (ed_cb (ea_cons (ed_op (ed_var rfl) ed_int (rd_fdiv ⟨by decide, by decide⟩)) ea_nil) rc_intI) ed_int (rd_mod (by decide))) rfl (by rw [List.length_map]; omega) ⟨dg' ++ [(y * 16807 + 7 * (l : Int) + 1) % 2147483647 / 997 % 1000], (y * 16807 + 7 * (l : Int) + 1) % 2147483647, .dat (.int (l : Nat)), by rw [List.length_append]; show _ + 1 ≤ _; omega, ?_⟩
        rw [List.map_append]
        rfl
      · rintro ρ1 ⟨dg', y, c', hl', rfl⟩
        exact ⟨dg', _, _, _, .dat (.int y), by simp at hl'; omega, rfl, rfl⟩
  · rintro ρ1 ⟨dg, a', b, c, s, hl, hs, rfl⟩
    exact sd_retOwn rfl ⟨dg, rfl⟩
def Below (many : Int) (d : PyData) : Prop := ∃ z : Int, d = .int z ∧ 0 ≤ z ∧ z < many
abbrev s__law_draw : Stmt := tp 55
theorem sc__law_draw : FnScope ["_law_box", "_law_many", "_law_at"] ["_law_box", "_law_many"] (defScope s__law_draw) := ⟨rfl, rfl, rfl, by decide +kernel, rfl, by decide +kernel, by decide +kernel⟩
def d__law_draw (ds : List PyData) (R : PyData → Prop) : Prop := ∃ many : Int, 0 < many ∧ ds = [.int many] ∧ R = Below many
theorem ok__law_draw {f : Addr} {fd : FuncData} (F : Fun K "_law_draw" "_law_draw" s__law_draw f fd) (T : Txt K mg CA CN CS)
     : FnOk P w K mg base CX0 1 f fd ["_law_box", "_law_many"] (spB 1 d__law_draw) := by
  refine F.ok sc__law_draw (fun vs H Q E h => ?_) (fun cdv A outer s H vs Q E hr h => ?_)
  · exact spB_len h
  refine ⟨_, (pss_cons (ps_set (i := 2) sc__law_draw.nd rfl (Or.inl rfl) (pe_ix (ix_lisK (K := K) rfl) (pv 0) pe_int (fun _ _ => rfl)))
 (pss_cons (ps_asg (pe_op op_add (pv 2) pe_int) (pg_sub (pv 0) pe_int set_list))
 (pss_cons (ps_if (pt_cmpR op_lt (pv 2) (pe_callB (call_lenK (K := K) rfl) rfl T.b_len PySem.boot_len (pa_cons (pe_ix (ix_lisK (K := K) rfl) (pv 0) pe_int (fun _ _ => rfl)) pa_nil)) (nomark _))
  (pss_one (ps_ret (pe_op op_mod (pe_callTy call_int1 rfl T.b_int (by decide +kernel) (pa_cons (pe_ix (ix_lisK (K := K) rfl) (pe_ix (ix_lisK (K := K) rfl) (pv 0) pe_int (fun _ _ => rfl)) (pv 2) (fun _ _ => rfl)) pa_nil)) (pv 1))))
  pss_nil)
 (pss_one (ps_ret (pe_op op_mod (pe_callTy call_int1 rfl T.b_int (by decide +kernel) (pa_cons (pe_op op_add (pe_op op_mul (pv 2) pe_int) pe_int) pa_nil)) (pv 1))))))), ?_⟩
  obtain ⟨H0, p, dg, ws, ds, R, rfl, ⟨hb0, l, i, hbox, hi, hl⟩, we, hv, hn, ⟨many, hm, rfl, rfl⟩, q⟩ := h
  match ws, hv with
  | [x], hv =>
    cases (show x = V.int many from hv.1)
    obtain ⟨a, xs, rfl, ha, hxs⟩ := id hl
    have hxs' := hxs.ints
    subst hxs'
    have hap : a ≠ p := fun z => by subst z; rw [hb0] at ha; cases ha
    have hH : H a = some (.lst (dg.map V.int)) := we a _ ha
    have bx : BoxOk H0 (upd H p (.lst [.ref a, .int (i + 1)])) p dg := ⟨hb0, .ref a, i + 1, upd_same, by omega, hl⟩
    have le : Le H0 (cut H p) H0 (cut (upd H p (.lst [.ref a, .int (i + 1)])) p) := by
      have e : cut (upd H p (.lst [.ref a, .int (i + 1)])) p = cut H p := by
        funext b
        by_cases hb : b = p
        · subst hb
          rw [cut_at, cut_at]
        · rw [cut_ne hb, cut_ne hb, upd_ne hb]
      rw [e]
      refine .refl fun b o hb => ?_
      exact cut_some (we b o hb) fun z => by subst z; rw [hb0] at hb; cases hb
    have fin : ∀ z : Int, Q (.int (z % many)) (upd H p (.lst [.ref a, .int (i + 1)])) := fun z => q (.int (z % many)) (.int (z % many)) H0 _ ⟨z % many, rfl, Int.emod_nonneg _ (by omega), Int.emod_lt_of_pos _ hm⟩ le bx rfl
    refine ⟨_, rfl, p, _, 1, .int i, rfl, rfl, SqL.of hbox, rfl, ?_⟩
    refine ⟨_, rfl, i, 1, rfl, rfl, _, rfl, p, _, 1, 1, rfl, rfl, hbox, rfl, ?_⟩
    refine ⟨_, rfl, _, rfl, p, _, 0, .ref a, rfl, rfl, SqL.of upd_same, rfl, .ref a, (dg.map V.int).length, rfl, .inl ⟨dg.map V.int, SqL.of (by rw [upd_ne hap]; exact hH), rfl⟩, i, _, rfl, rfl, _, rfl, ?_⟩
    by_cases hlt : i < ((dg.map V.int).length : Int)
    · refine ifT (decide_eq_true hlt) ?_
      rw [List.length_map] at hlt
      have hk : i.toNat < dg.length := by omega
      refine ⟨_, rfl, p, _, 0, .ref a, rfl, rfl, SqL.of upd_same, rfl, _, rfl, a, dg.map V.int, i, .int dg[i.toNat], rfl, rfl, SqL.of (by rw [upd_ne hap]; exact hH), at_int (k := i.toNat) (by omega) (by rw [List.getElem?_map, List.getElem?_eq_getElem hk]; rfl), .inl ⟨_, rfl, _, rfl, _, _, rfl, rfl, hm, fin _⟩⟩
    · refine ifF (decide_eq_false hlt) ?_
      exact ⟨_, rfl, _, _, rfl, rfl, .inr ⟨by decide, by decide⟩, _, _, rfl, rfl, .inl ⟨_, rfl, _, rfl, _, _, rfl, rfl, hm, fin _⟩⟩
end HW
end
section
/-! HWF7: the law's own defs: the drawn basin and rights. -/
namespace HW
open PySem PySem.Spec PyProof.Rows L2
local macro_rules | `(tactic| walk_at "ed") => `(tactic| repeat' (first
  | exact ed_int | exact ed_str | exact ed_bl | exact ed_non | exact ea_nil | exact eo_none
  | exact ed_var rfl
  | with_reducible apply ea_cons
  | with_reducible apply ed_op
  | with_reducible apply ed_un
  | with_reducible apply ed_tupT
  | with_reducible apply ed_lstT
  | with_reducible apply et_test
  | with_reducible apply et_B
  | with_reducible apply et_andC
  | with_reducible apply et_orC
  | with_reducible apply et_not
  | with_reducible apply eo_some
  | with_reducible apply ed_callT
  | exact rd_add | exact rd_sub | exact rd_lt | exact rd_le | exact rd_gt | exact rd_ge | exact rd_isN | exact rd_notN | exact ru_neg
  | exact rd_ixT rfl
  | exact rd_ixT (at_rng (by assumption))
  | exact rd_ixT (at_ints (by assumption))
  | exact rd_ixT (at_pred (by assumption))
  | (show List.length _ = _; exact rfl)
  | (show List.length _ ≤ 100000; exact Nat.le_of_ble_eq_true rfl)
  | apply ed_tupT))
local macro_rules | `(tactic| walk_at "gd") => `(tactic| repeat' (first | exact gd_name (by decide) | exact gs_nil | with_reducible apply gs_cons | refine' gd_tup ?_ rfl))
variable {P : Program} {w : World} {K : PySem.W.Frag} {mg : Str → Option Value} {base : Heap} {CA CN CS : Addr}
section
variable {B0 B : Hp} {ρ : Rho} {te : TE} {d : PyData}
/-- a draw below a known number -/
theorem ef_draw {i : Nat} {p : Addr} {dg : List Int} {many : Int} {E : XK} (h : ρ[i]? = some (.box p dg)) (hap : apart (ρ.set i .any) p) (ha : Ed B0 B te ρ (.int many)) (hm : 0 < many) : Ef B0 B (tCall (spB 1 d__law_draw) [] E (tCons (tVar i) (tCons te tNil))) ρ (Below many) :=
  ef_box h hap (ea_cons ha ea_nil) rfl ⟨many, hm, rfl, rfl⟩
theorem below_ints {b : Int} : ∀ {ds : List PyData}, (∀ (j : Nat) (d : PyData), ds[j]? = some d → Below b d) → ∃ xs : List Int, ds = xs.map PyData.int ∧ xs.length = ds.length ∧ ∀ x ∈ xs, 0 ≤ x ∧ x < b
  | [], _ => ⟨[], rfl, rfl, fun x hx => by simp at hx⟩
  | d :: ds, h => by
    obtain ⟨z, rfl, h0, h1⟩ := h 0 d rfl
    obtain ⟨xs, rfl, hl, hx⟩ := below_ints (ds := ds) fun j e he => h (j + 1) e (by simpa using he)
    exact ⟨z :: xs, rfl, by rw [List.length_cons, List.length_cons, hl], fun x hm => by
      rcases List.mem_cons.mp hm with rfl | hm
      · exact ⟨h0, h1⟩
      · exact hx x hm⟩
theorem efa_mono {ta : TA} {R R' : List PyData → Prop} (h : EfA B0 B ta ρ R) (k : ∀ d, R d → R' d) : EfA B0 B ta ρ R' := fun H0 H σ E Q q => h H0 H σ E Q fun d v H1 H2 hd => q d v H1 H2 (k d hd)
theorem ef_mono {R R' : PyData → Prop} (h : Ef B0 B te ρ R) (k : ∀ d, R d → R' d) : Ef B0 B te ρ R' := fun H0 H σ E Q q => h H0 H σ E Q fun d v H1 H2 hd => q d v H1 H2 (k d hd)
end
/-- slots that hold no list that may change -/
def flat (s : Sv) : Prop := ∀ ρ a, apart ρ a → apart (s :: ρ) a
theorem flat_dat {d : PyData} : flat (.dat d) := fun _ _ h => h
theorem flat_any : flat .any := fun _ _ h => h
theorem sf_forget {B0 B : Hp} {ρ : Rho} {t : TS} {N : Rho → Prop} {R : PyData → Rho → Prop} (i : Nat) (h : Sf B0 B t (ρ.set i .any) N R) : Sf B0 B t ρ N R := fun H0 H σ E D n r => h H0 H σ ⟨E.le, env_any i E.env⟩ D n r
abbrev s__law_demands : Stmt := tp 57
theorem sc__law_demands : FnScope ["_law_box", "_law_months", "_law_m"] ["_law_box", "_law_months"] (defScope s__law_demands) := ⟨rfl, rfl, rfl, by decide +kernel, rfl, by decide +kernel, by decide +kernel⟩
def d__law_demands (ds : List PyData) (R : PyData → Prop) : Prop := ∃ M : Nat, M ≤ 4 ∧ ds = [natD M] ∧ R = fun d => ∃ xs : List Int, d = intsD xs ∧ xs.length = M ∧ ∀ x ∈ xs, 0 ≤ x ∧ x < 7
theorem ok__law_demands {f : Addr} {fd : FuncData} (F : Fun K "_law_demands" "_law_demands" s__law_demands f fd) (T : Txt K mg CA CN CS)
    (G__law_draw : FnF P w K mg base 1 "_law_draw" ["_law_box", "_law_many"] (spB 1 d__law_draw)) : FnOk P w K mg base CX0 2 f fd ["_law_box", "_law_months"] (spB 1 d__law_demands) := by
  refine F.ok sc__law_demands (fun vs H Q E h => ?_) (fun cdv A outer s H vs Q E hr h => ?_)
  · exact spB_len h
  refine ⟨_, (pss_one (ps_ret (pe_callTy (call_tupK (K := K) rfl) rfl T.b_tuple (by decide +kernel) (pa_cons (pe_lc  (own := [("_law_m", 2)]) rfl sc__law_demands.nd (pi_range1 rfl T.b_range (pa_cons (pv 1) pa_nil)) (blkOk_by (own := [("_law_m", 2)]) (N := ["_law_box", "_law_months", "_law_m"]) (sc := (defScope s__law_demands)) (by decide +kernel))
   (fun _ _ _ _ _ => (pg_name (i := 2) sc__law_demands.nd rfl (Or.inl rfl)))
   (fun _ _ _ _ _ => pts_nil)
   (fun _ _ _ _ _ => (pe_fn G__law_draw (hr.mono (by decide)) rfl (pa_cons (pv 0) (pa_cons pe_int pa_nil))))) pa_nil)))), ?_⟩
  refine sf_run h ?_
  rintro H0 B p dg _ _ ⟨M, hM, rfl, rfl⟩
  refine sf_ret (ef_tupL (Rs := fun ds => ds.length = M ∧ ∀ (j : Nat) (d : PyData), ds[j]? = some d → Below 7 d) (ef_lc (L := List.range M) (emb := fun i => .int (i : Nat)) (fun _ => Below 7) (ei_rng1 (by walk_at "ed") (by omega)) (by simp; omega) rfl rfl ?_ ?_) ?_) fun d hd => ⟨hd, rfl⟩
  · intro i x hx
    exact ⟨_, gd_name (by decide), rfl, fun a h => h, ef_draw rfl trivial (by walk_at "ed") (by decide)⟩
  · intro ds hl hd
    rw [List.length_range] at hl
    exact ⟨ds, rfl, hl, fun j d hj => hd j d j hj (List.getElem?_range (by have := (List.getElem?_eq_some_iff.mp hj).1; omega))⟩
  · rintro ds ⟨hl, hd⟩
    obtain ⟨xs, rfl, h1, h2⟩ := below_ints hd
    exact ⟨xs, rfl, by rw [h1, hl], h2⟩
/-- what is drawn of a site -/
structure SiteOk (n M j : Nat) (s : Site) : Prop where
  nxt : ∀ t, s.nxt = some t → j < t ∧ t < n
  len : s.infl.length = M
  infl : ∀ x ∈ s.infl, 0 ≤ x ∧ x ≤ 99
  held : 0 ≤ s.held
  room : 0 ≤ s.room
  reach : ∀ c, s.reach = some c → 0 ≤ c
structure Drawn (B : Basin) : Prop where
  bas : Bas B
  n0 : 0 < B.n
  infl : ∀ s, s < B.n → ∀ x ∈ (B.site s).infl, 0 ≤ x ∧ x ≤ 99
theorem drawn_of {n M : Nat} {S : List Site} (hl : S.length = n) (hn1 : 1 ≤ n) (hn : n ≤ 4) (hM0 : 0 < M) (hM : M ≤ 4) (h : ∀ j s, S[j]? = some s → SiteOk n M j s) : Drawn ⟨M, S⟩ := by
  have at_ : ∀ j, j < n → SiteOk n M j ((⟨M, S⟩ : Basin).site j) := fun j hj => by
    have e : S[j]? = some S[j] := List.getElem?_eq_getElem (by omega)
    have : (⟨M, S⟩ : Basin).site j = S[j] := by
      show S.getD j Site.none = _
      rw [List.getD_eq_getElem?_getD, e]
      rfl
    rw [this]
    exact h j _ e
  have en : (⟨M, S⟩ : Basin).n = n := hl
  have none_ : ∀ j, ¬ j < n → (⟨M, S⟩ : Basin).site j = Site.none := fun j hj => by
    show S.getD j Site.none = _
    rw [List.getD_eq_getElem?_getD, List.getElem?_eq_none (by omega)]
    rfl
  refine ⟨⟨⟨fun s t hs e => ?_, fun s hs => ?_, fun s m => ?_, fun s => ?_, fun s => ?_, fun s c e => ?_⟩, by rw [en]; exact hn, hM0, hM⟩, by rw [en]; exact hn1, fun s hs => (at_ s (by rw [en] at hs; exact hs)).infl⟩
  · rw [en] at hs ⊢
    exact (at_ s hs).nxt t e
  · rw [en] at hs
    exact (at_ s hs).len
  · unfold Basin.infl
    by_cases hs : s < n
    · by_cases hm : m < ((⟨M, S⟩ : Basin).site s).infl.length
      · rw [List.getD_eq_getElem?_getD, List.getElem?_eq_getElem hm]
        exact ((at_ s hs).infl _ (List.getElem_mem hm)).1
      · rw [List.getD_eq_getElem?_getD, List.getElem?_eq_none (by omega)]
        exact Int.le_refl 0
    · rw [none_ s hs]
      exact Int.le_refl 0
  · by_cases hs : s < n
    · exact (at_ s hs).held
    · rw [none_ s hs]
      exact Int.le_refl 0
  · by_cases hs : s < n
    · exact (at_ s hs).room
    · rw [none_ s hs]
      exact Int.le_refl 0
  · by_cases hs : s < n
    · exact (at_ s hs).reach c e
    · rw [none_ s hs] at e
      cases e
theorem abcd {k : Nat} (h : k < 4) : atI ("abcd" : Str).cps.toList (k : Int) = some (97 + k) := by
  have : ∀ k : Fin 4, atI ("abcd" : Str).cps.toList ((k.val : Nat) : Int) = some (97 + k.val) := by decide +kernel
  exact this ⟨k, h⟩
theorem rd_three {K : PySem.W.Frag} {a b c : PyData} {z : Int} (h0 : 0 ≤ z) (h3 : z < 3) : RD (rIxL K) (.list [a, b, c]) (.int z) (if z = 0 then a else if z = 1 then b else c) := by
  have : z = 0 ∨ z = 1 ∨ z = 2 := by omega
  rcases this with rfl | rfl | rfl
  · exact rd_ixL rfl
  · exact rd_ixL rfl
  · exact rd_ixL rfl
abbrev s__law_basin : Stmt := tp 56
theorem sc__law_basin : FnScope ["_law_box", "_law_many", "_law_months", "_law_sites", "_law_k", "_law_other", "_law_travel", "_law_reach", "_law_room", "_law_held", "_law_m"] ["_law_box"] (defScope s__law_basin) := ⟨rfl, rfl, rfl, by decide +kernel, rfl, by decide +kernel, by decide +kernel⟩
def d__law_basin (ds : List PyData) (R : PyData → Prop) : Prop := ds = [] ∧ R = fun d => ∃ B, Drawn B ∧ d = basinD B
theorem ok__law_basin {f : Addr} {fd : FuncData} (F : Fun K "_law_basin" "_law_basin" s__law_basin f fd) (T : Txt K mg CA CN CS)
    (G__law_draw : FnF P w K mg base 1 "_law_draw" ["_law_box", "_law_many"] (spB 1 d__law_draw)) : FnOk P w K mg base CX0 2 f fd ["_law_box"] (spB 0 d__law_basin) := by
  refine F.ok sc__law_basin (fun vs H Q E h => ?_) (fun cdv A outer s H vs Q E hr h => ?_)
  · exact spB_len h
  refine ⟨_, (pss_cons (ps_set (i := 1) sc__law_basin.nd rfl (Or.inl rfl) (pe_op op_add pe_int (pe_fn G__law_draw (hr.mono (by decide)) rfl (pa_cons (pv 0) (pa_cons pe_int pa_nil)))))
 (pss_cons (ps_set (i := 2) sc__law_basin.nd rfl (Or.inl rfl) (pe_ix (ix_lisK (K := K) rfl) (pe_lst (pa_cons (pe_op op_add pe_int (pe_fn G__law_draw (hr.mono (by decide)) rfl (pa_cons (pv 0) (pa_cons pe_int pa_nil)))) (pa_cons (pe_op op_add pe_int (pe_fn G__law_draw (hr.mono (by decide)) rfl (pa_cons (pv 0) (pa_cons pe_int pa_nil)))) (pa_cons (pe_op op_add pe_int (pe_fn G__law_draw (hr.mono (by decide)) rfl (pa_cons (pv 0) (pa_cons pe_int pa_nil)))) pa_nil)))) (pe_op op_sub (pe_callTy call_int1 rfl T.b_int (by decide +kernel) (pa_cons (pv 1) pa_nil)) pe_int) (fun _ _ => rfl)))
 (pss_cons (ps_set (i := 3) sc__law_basin.nd rfl (Or.inl rfl) (pe_lst pa_nil))
 (pss_cons (ps_for PassesOwn.never rfl (pi_range1 rfl T.b_range (pa_cons (pv 1) pa_nil)) (pg_name (i := 4) sc__law_basin.nd rfl (Or.inl rfl))
  (pss_cons (ps_set (i := 5) sc__law_basin.nd rfl (Or.inl rfl) pe_non)
 (pss_cons (ps_set (i := 6) sc__law_basin.nd rfl (Or.inl rfl) pe_int)
 (pss_cons (ps_set (i := 7) sc__law_basin.nd rfl (Or.inl rfl) pe_non)
 (pss_cons (ps_if (pt_cmpR op_lt (pv 4) (pe_op op_sub (pv 1) pe_int) (nomark _))
  (pss_cons (ps_set (i := 5) sc__law_basin.nd rfl (Or.inl rfl) (pe_op op_add_str pe_str (pe_ix ix_str pe_str (pe_callTy call_int1 rfl T.b_int (by decide +kernel) (pa_cons (pe_op op_add (pe_op op_add (pv 4) pe_int) (pe_fn G__law_draw (hr.mono (by decide)) rfl (pa_cons (pv 0) (pa_cons (pe_op op_sub (pe_op op_sub (pv 1) (pv 4)) pe_int) pa_nil)))) pa_nil)) (fun _ _ => rfl))))
 (pss_cons (ps_set (i := 6) sc__law_basin.nd rfl (Or.inl rfl) (pe_ix (ix_lisK (K := K) rfl) (pe_lst (pa_cons pe_int (pa_cons pe_int (pa_cons pe_int (pa_cons pe_int pa_nil))))) (pe_fn G__law_draw (hr.mono (by decide)) rfl (pa_cons (pv 0) (pa_cons pe_int pa_nil))) (fun _ _ => rfl)))
 (pss_one (ps_set (i := 7) sc__law_basin.nd rfl (Or.inl rfl) (pe_ix (ix_lisK (K := K) rfl) (pe_lst (pa_cons pe_non (pa_cons pe_non (pa_cons (pe_fn G__law_draw (hr.mono (by decide)) rfl (pa_cons (pv 0) (pa_cons pe_int pa_nil))) pa_nil)))) (pe_fn G__law_draw (hr.mono (by decide)) rfl (pa_cons (pv 0) (pa_cons pe_int pa_nil))) (fun _ _ => rfl))))))
  pss_nil)
 (pss_cons (ps_set (i := 8) sc__law_basin.nd rfl (Or.inl rfl) (pe_ix (ix_lisK (K := K) rfl) (pe_lst (pa_cons pe_int (pa_cons (pe_fn G__law_draw (hr.mono (by decide)) rfl (pa_cons (pv 0) (pa_cons pe_int pa_nil))) (pa_cons (pe_fn G__law_draw (hr.mono (by decide)) rfl (pa_cons (pv 0) (pa_cons pe_int pa_nil))) pa_nil)))) (pe_fn G__law_draw (hr.mono (by decide)) rfl (pa_cons (pv 0) (pa_cons pe_int pa_nil))) (fun _ _ => rfl)))
 (pss_cons (ps_set (i := 9) sc__law_basin.nd rfl (Or.inl rfl) (pe_op op_mul (pe_fn G__law_draw (hr.mono (by decide)) rfl (pa_cons (pv 0) (pa_cons (pe_op op_add (pv 8) pe_int) pa_nil))) (pe_fn G__law_draw (hr.mono (by decide)) rfl (pa_cons (pv 0) (pa_cons pe_int pa_nil)))))
 (pss_one (ps_expr (pe_bm PySem.F.plainAttrs_list PySem.F.slot_list_append PySem.F.type_list_append mt_append (pv 3) (pa_cons (pe_tup (pa_cons (pe_op op_add_str pe_str (pe_ix ix_str pe_str (pe_callTy call_int1 rfl T.b_int (by decide +kernel) (pa_cons (pv 4) pa_nil)) (fun _ _ => rfl))) (pa_cons (pv 5) (pa_cons (pv 6) (pa_cons (pv 7) (pa_cons (pv 8) (pa_cons (pv 9) (pa_cons (pe_callTy (call_tupK (K := K) rfl) rfl T.b_tuple (by decide +kernel) (pa_cons (pe_lc  (own := [("_law_m", 10)]) rfl sc__law_basin.nd (pi_range1 rfl T.b_range (pa_cons (pv 2) pa_nil)) (blkOk_by (own := [("_law_m", 10)]) (N := ["_law_box", "_law_many", "_law_months", "_law_sites", "_law_k", "_law_other", "_law_travel", "_law_reach", "_law_room", "_law_held", "_law_m"]) (sc := (defScope s__law_basin)) (by decide +kernel))
   (fun _ _ _ _ _ => (pg_name (i := 10) sc__law_basin.nd rfl (Or.inl rfl)))
   (fun _ _ _ _ _ => pts_nil)
   (fun _ _ _ _ _ => (pe_fn G__law_draw (hr.mono (by decide)) rfl (pa_cons (pv 0) (pa_cons pe_int pa_nil))))) pa_nil)) pa_nil)))))))) pa_nil)))))))))))
 (pss_one (ps_ret (pe_tup (pa_cons (pv 2) (pa_cons (pe_callTy (call_tupK (K := K) rfl) rfl T.b_tuple (by decide +kernel) (pa_cons (pv 3) pa_nil)) pa_nil))))))))), ?_⟩
  refine sf_run h ?_
  rintro H0 B p dg _ _ ⟨rfl, rfl⟩
  -- many
  refine sf_seq (sf_asg (R1 := fun d => ∃ n : Nat, d = natD n ∧ 1 ≤ n ∧ n ≤ 3) (ef_op (ef_ed ed_int rfl) (ef_draw rfl (by exact trivial) ed_int (by decide)) ?_) ?_)
  · rintro d e hd ⟨z, rfl, h0, h1⟩
    subst hd
    refine ⟨.int (1 + z), rd_add, (1 + z).toNat, ?_, by omega, by omega⟩
    show PyData.int (1 + z) = PyData.int ((1 + z).toNat : Nat)
    rw [show (((1 + z).toNat : Nat) : Int) = 1 + z by omega]
  rintro d ⟨n, rfl, hn1, hn3⟩
  -- months
  have one : ∀ {ρ : Rho} {many : Int}, ρ[0]? = some (.box p dg) → apart (ρ.set 0 .any) p → 0 < many → Ef H0 B (tOp (rI0 fun i j => V.int (i + j)) (tC (.int 1)) (tCall (spB 1 d__law_draw) [] E0 (tCons (tVar 0) (tCons (tC (.int many)) tNil)))) ρ (fun d => ∃ z : Int, d = .int z ∧ 1 ≤ z ∧ z ≤ many) := fun h1 h2 h3 => by
    refine ef_op (ef_ed ed_int rfl) (ef_draw h1 h2 ed_int h3) ?_
    rintro d e hd ⟨z, rfl, h0, h1⟩
    subst hd
    exact ⟨.int (1 + z), rd_add, 1 + z, rfl, by omega, by omega⟩
  refine sf_seq (sf_asg (R1 := fun d => ∃ m : Nat, d = natD m ∧ 0 < m ∧ m ≤ 4) (ef_op (R1 := fun d => ∃ a b c : Int, d = .list [.int a, .int b, .int c] ∧ (1 ≤ a ∧ a ≤ 4) ∧ (1 ≤ b ∧ b ≤ 4) ∧ (1 ≤ c ∧ c ≤ 4)) (ef_lst (efa_cons (one rfl trivial (by decide)) (efa_cons (one rfl trivial (by decide)) (efa_cons (one rfl trivial (by decide)) efa_nil))) ?_) (ef_ed (d := .int ((n : Int) - 1)) (ed_op (ed_cb (by walk_at "ed") rc_intI) ed_int rd_sub) rfl) ?_) ?_)
  · rintro _ ⟨_, _, rfl, ⟨a, rfl, a1, a2⟩, _, _, rfl, ⟨b, rfl, b1, b2⟩, _, _, rfl, ⟨c, rfl, c1, c2⟩, rfl⟩
    exact ⟨Nat.le_of_ble_eq_true rfl, a, b, c, rfl, ⟨a1, by omega⟩, ⟨b1, by omega⟩, ⟨c1, by omega⟩⟩
  · rintro d e ⟨a, b, c, rfl, ⟨a1, a2⟩, ⟨b1, b2⟩, ⟨c1, c2⟩⟩ rfl
    refine ⟨_, rd_three (by omega) (by omega), (if (n : Int) - 1 = 0 then a else if (n : Int) - 1 = 1 then b else c).toNat, ?_, ?_, ?_⟩
    · split
      · show PyData.int a = PyData.int _
        congr 1
        omega
      · split
        · show PyData.int b = PyData.int _
          congr 1
          omega
        · show PyData.int c = PyData.int _
          congr 1
          omega
    · split
      · omega
      · split <;> omega
    · split
      · omega
      · split <;> omega
  rintro d ⟨M, rfl, hM0, hM4⟩
  -- sites
  refine sf_seq (sf_new rfl ?_)
  intro q hq
  have hpq : p ≠ q := hq.1
  have hqp : q ≠ p := fun z => hpq z.symm
  let SD : List Site → Nat → List PyData := fun S i => (List.range i).map fun j => siteD j (S.getD j Site.none)
  refine sf_seq (sf_for (ei_rng1 (n := n) (by walk_at "ed") (by omega)) (fun i ρ1 => ∃ (S : List Site) (a b c d e f : Sv), S.length = i ∧ (∀ j s, S[j]? = some s → SiteOk n M j s) ∧ flat e ∧ flat f ∧ ρ1 = [.box p dg, .dat (natD n), .dat (natD M), .lat q (SD S i), a, b, c, d, e, f, .any]) ⟨[], .any, .any, .any, .any, .any, .any, rfl, fun j s h => by simp at h, flat_any, flat_any, rfl⟩ ?_ ?_)
  · rintro i k ρ1 hk ⟨S, a, b, c, d, e, f', lS, okS, fe, ff, rfl⟩
    obtain ⟨rfl, hk⟩ := rng_at hk
    have hk4 : k < 4 := by omega
    refine ⟨_, gd_name (by decide), ?_⟩
    refine sf_seq (sf_asgE ed_non ?_)
    refine sf_seq (sf_asgE ed_int ?_)
    refine sf_seq (sf_asgE ed_non ?_)
    refine sf_seq (sf_mid (M := fun ρ1 => ∃ (nx : Option Nat) (tr : Nat) (re : Option Int), (∀ t, nx = some t → k < t ∧ t < n) ∧ (∀ c, re = some c → 0 ≤ c) ∧ ρ1 = [.box p dg, .dat (natD n), .dat (natD M), .lat q (SD S k), .dat (natD k), .dat (nxtD nx), .dat (natD tr), .dat (optD re), e, f', .any]) ?_ ?_)
    · have ap : ∀ {x y z : Sv}, flat x → flat y → flat z → apart [.any, .dat (natD n), .dat (natD M), .lat q (SD S k), .dat (natD k), x, y, z, e, f', .any] p := fun hx hy hz => ⟨hqp, hx _ _ (hy _ _ (hz _ _ (fe _ _ (ff _ _ trivial))))⟩
      refine sf_if (b := decide ((k : Int) < (n : Int) - 1)) (by walk_at "ed") (fun hb => ?_) fun hb => sf_next ⟨none, 0, none, (fun t h => nomatch h), (fun c h => nomatch h), rfl⟩
      have hb := of_decide_eq_true hb
      -- other
      refine sf_seq (sf_asg (R1 := fun d => ∃ t, d = .str (nm t) ∧ k < t ∧ t < n) (ef_op (R1 := fun d => d = .str "s") (Rq := fun d => ∃ t : Nat, d = .str ⟨#[97 + t]⟩ ∧ k < t ∧ t < n) (ef_ed ed_str rfl) (ef_op (R1 := fun d => d = .str "abcd") (Rq := fun d => ∃ t : Nat, d = natD t ∧ k < t ∧ t < n) (ef_ed ed_str rfl) (ef_cb1 (R1 := fun d => ∃ t : Nat, d = natD t ∧ k < t ∧ t < n) (ef_op (ef_ed (d := .int ((k : Int) + 1)) (by walk_at "ed") rfl) (ef_draw (many := (n : Int) - (k : Nat) - 1) rfl (ap flat_dat flat_dat flat_dat) (by walk_at "ed") (by omega)) ?_) ?_) ?_) ?_) ?_)
      · rintro d e hd ⟨z, rfl, h0, h1⟩
        subst hd
        refine ⟨.int ((k : Int) + 1 + z), rd_add, ((k : Int) + 1 + z).toNat, ?_, by omega, by omega⟩
        show PyData.int _ = PyData.int _
        congr 1
        omega
      · rintro d ⟨t, rfl, h1, h2⟩
        exact ⟨natD t, rc_intI, t, rfl, h1, h2⟩
      · exact fun d e hd he => (by
          obtain ⟨t, rfl, h1, h2⟩ := he
          subst hd
          exact ⟨.str ⟨#[97 + t]⟩, rd_ixS (by decide) (abcd (by omega)), t, rfl, h1, h2⟩)
      · rintro d e hd ⟨t, rfl, h1, h2⟩
        subst hd
        exact ⟨.str (nm t), rd_addS (by show 1 + 1 ≤ _; decide), t, rfl, h1, h2⟩
      rintro d ⟨t, rfl, ht1, ht2⟩
      -- travel
      refine sf_seq (sf_asg (R1 := fun d => ∃ r : Nat, d = natD r) (ef_op (R1 := fun d => d = .list [.int 0, .int 0, .int 1, .int 2]) (ef_ed (by walk_at "ed") rfl) (ef_draw (many := 4) rfl (ap flat_dat flat_dat flat_dat) ed_int (by decide)) ?_) ?_)
      · rintro d e hd ⟨z, rfl, h0, h1⟩
        subst hd
        have : z = 0 ∨ z = 1 ∨ z = 2 ∨ z = 3 := by omega
        rcases this with rfl | rfl | rfl | rfl
        · exact ⟨.int 0, rd_ixL rfl, 0, rfl⟩
        · exact ⟨.int 0, rd_ixL rfl, 0, rfl⟩
        · exact ⟨.int 1, rd_ixL rfl, 1, rfl⟩
        · exact ⟨.int 2, rd_ixL rfl, 2, rfl⟩
      rintro d ⟨tr, rfl⟩
      -- reach
      refine sf_asg (R1 := fun d => ∃ re : Option Int, d = optD re ∧ ∀ c, re = some c → 0 ≤ c) (ef_op (R1 := fun d => ∃ z : Int, d = .list [.none, .none, .int z] ∧ 0 ≤ z) (ef_lst (efa_cons (R1 := fun d => d = .none) (ef_ed ed_non rfl) (efa_cons (R1 := fun d => d = .none) (ef_ed ed_non rfl) (efa_cons (ef_draw (many := 6) rfl (ap flat_dat flat_dat flat_dat) ed_int (by decide)) efa_nil))) ?_) (ef_draw (many := 3) rfl (ap flat_dat flat_dat flat_dat) ed_int (by decide)) ?_) ?_
      · rintro _ ⟨_, _, rfl, rfl, _, _, rfl, rfl, _, _, rfl, ⟨z, rfl, h0, h1⟩, rfl⟩
        exact ⟨Nat.le_of_ble_eq_true rfl, z, rfl, h0⟩
      · rintro d e ⟨y, rfl, hy⟩ ⟨z, rfl, h0, h1⟩
        refine ⟨_, rd_three h0 h1, if z = 2 then some y else none, ?_, fun c hc => ?_⟩
        · have : z = 0 ∨ z = 1 ∨ z = 2 := by omega
          rcases this with rfl | rfl | rfl <;> rfl
        · split at hc
          · cases hc
            exact hy
          · cases hc
      · rintro d ⟨re, rfl, hre⟩
        exact ⟨some t, tr, re, fun t' h => by cases h; exact ⟨ht1, ht2⟩, hre, rfl⟩
    rintro ρ1 ⟨nx, tr, re, hnx, hre, rfl⟩
    have ap : ∀ {x y : Sv}, flat x → flat y → apart [.any, .dat (natD n), .dat (natD M), .lat q (SD S k), .dat (natD k), .dat (nxtD nx), .dat (natD tr), .dat (optD re), x, y, .any] p := fun hx hy => ⟨hqp, hx _ _ (hy _ _ trivial)⟩
    -- room
    refine sf_seq (sf_asg (R1 := fun d => ∃ z : Int, d = .int z ∧ 0 ≤ z) (ef_op (R1 := fun d => ∃ y z : Int, d = .list [.int 0, .int y, .int z] ∧ 0 ≤ y ∧ 0 ≤ z) (ef_lst (efa_cons (R1 := fun d => d = .int 0) (ef_ed ed_int rfl) (efa_cons (ef_draw (many := 5) rfl (ap fe ff) ed_int (by decide)) (efa_cons (ef_draw (many := 9) rfl (ap fe ff) ed_int (by decide)) efa_nil))) ?_) (ef_draw (many := 3) rfl (ap fe ff) ed_int (by decide)) ?_) ?_)
    · rintro _ ⟨_, _, rfl, rfl, _, _, rfl, ⟨y, rfl, h2, h3⟩, _, _, rfl, ⟨z, rfl, h0, h1⟩, rfl⟩
      exact ⟨Nat.le_of_ble_eq_true rfl, y, z, rfl, h2, h0⟩
    · rintro d e ⟨y, w, rfl, hy, hw⟩ ⟨z, rfl, h0, h1⟩
      refine ⟨_, rd_three h0 h1, if z = 0 then 0 else if z = 1 then y else w, ?_, ?_⟩
      · split
        · rfl
        · split <;> rfl
      · split
        · exact Int.le_refl 0
        · split
          · exact hy
          · exact hw
    rintro d ⟨room, rfl, hroom⟩
    -- held
    refine sf_seq (sf_asg (R1 := fun d => ∃ z : Int, d = .int z ∧ 0 ≤ z) (ef_op (ef_draw (many := room + 1) rfl (ap flat_dat ff) (by walk_at "ed") (by omega)) (ef_draw (many := 2) rfl (ap flat_dat ff) ed_int (by decide)) ?_) ?_)
    · rintro d e ⟨y, rfl, h0, h1⟩ ⟨z, rfl, h2, h3⟩
      exact ⟨.int (y * z), rd_mul (.inr ⟨by omega, by omega⟩), y * z, rfl, Int.mul_nonneg h0 h2⟩
    rintro d ⟨held, rfl, hheld⟩
    have hroom' := hroom
    -- the site
    refine sf_app (p := q) (R1 := fun d => ∃ s : Site, d = siteD k s ∧ SiteOk n M k s) rfl ⟨hpq, by exact trivial⟩ (ef_tup (efa_cons (R1 := fun d => d = .str (nm k)) (ef_ed (ed_op ed_str (ed_op ed_str (ed_cb (by walk_at "ed") rc_intI) (rd_ixS (by decide) (abcd hk4))) (rd_addS (by show 1 + 1 ≤ _; decide))) rfl)
      (efa_cons (R1 := fun d => d = nxtD nx) (ef_ed (by walk_at "ed") rfl) (efa_cons (R1 := fun d => d = natD tr) (ef_ed (by walk_at "ed") rfl) (efa_cons (R1 := fun d => d = optD re) (ef_ed (by walk_at "ed") rfl) (efa_cons (R1 := fun d => d = .int room) (ef_ed (by walk_at "ed") rfl) (efa_cons (R1 := fun d => d = .int held) (ef_ed (by walk_at "ed") rfl)
      (efa_cons (R1 := fun d => ∃ xs : List Int, d = intsD xs ∧ xs.length = M ∧ ∀ x ∈ xs, 0 ≤ x ∧ x < 8) (ef_tupL (Rs := fun ds => ds.length = M ∧ ∀ (j : Nat) (d : PyData), ds[j]? = some d → Below 8 d) (ef_lc (L := List.range M) (emb := fun i => .int (i : Nat)) (fun _ => Below 8) (ei_rng1 (by walk_at "ed") (by omega)) (by simp; omega) rfl rfl ?_ ?_) ?_) efa_nil))))))) ?_) (by simp [SD]; omega) ?_
    · intro i x hx
      exact ⟨_, gd_name (by decide), rfl, fun a h => h, ef_draw rfl (by exact ⟨hqp, trivial⟩) ed_int (by decide)⟩
    · intro ds hl hd
      rw [List.length_range] at hl
      exact ⟨ds, rfl, hl, fun j d hj => hd j d j hj (List.getElem?_range (by have := (List.getElem?_eq_some_iff.mp hj).1; omega))⟩
    · rintro ds ⟨hl, hd⟩
      obtain ⟨xs, rfl, h1, h2⟩ := below_ints hd
      exact ⟨xs, rfl, by rw [h1, hl], h2⟩
    · rintro _ ⟨_, _, rfl, rfl, _, _, rfl, rfl, _, _, rfl, rfl, _, _, rfl, rfl, _, _, rfl, rfl, _, _, rfl, rfl, _, _, rfl, ⟨xs, rfl, hxl, hxs⟩, rfl⟩
      exact ⟨Nat.le_of_ble_eq_true rfl, ⟨nx, tr, re, room, held, xs⟩, rfl, ⟨hnx, hxl, fun x hx => ⟨(hxs x hx).1, by have := (hxs x hx).2; omega⟩, hheld, hroom, hre⟩⟩
    · rintro d ⟨s, rfl, hs⟩
      refine ⟨S ++ [s], .dat (natD k), .dat (nxtD nx), .dat (natD tr), .dat (optD re), .dat (.int room), .dat (.int held), by rw [List.length_append, lS]; rfl, fun j s' hj => ?_, flat_dat, flat_dat, ?_⟩
      · by_cases hjk : j < k
        · rw [List.getElem?_append_left (by omega)] at hj
          exact okS j s' hj
        · have hj2 := (List.getElem?_eq_some_iff.mp hj).1
          rw [List.length_append, lS] at hj2
          have hj3 : j = k := by have : [s].length = 1 := rfl; omega
          subst hj3
          rw [List.getElem?_append_right (by omega), lS, Nat.sub_self] at hj
          cases (show some s = some s' from hj)
          exact hs
      · have e1 : SD (S ++ [s]) (k + 1) = SD S k ++ [siteD k s] := by
          simp only [SD, List.range_succ, List.map_append, List.map_cons, List.map_nil]
          congr 1
          · refine List.map_congr_left fun j hj => ?_
            have hj := List.mem_range.mp hj
            rw [List.getD_eq_getElem?_getD, List.getD_eq_getElem?_getD, List.getElem?_append_left (by omega)]
          · rw [List.getD_eq_getElem?_getD, List.getElem?_append_right (by omega), lS, Nat.sub_self]
            rfl
        rw [e1]
        rfl
  · rintro ρ1 ⟨S, a, b, c, d, e, f', lS, okS, fe, ff, rfl⟩
    rw [List.length_range] at lS
    refine sf_ret (R1 := fun d => ∃ B, Drawn B ∧ d = basinD B) (ef_ed (ed_tupT (ea_cons (ed_var rfl) (ea_cons (ed_tupA rfl) ea_nil)) (Nat.le_of_ble_eq_true rfl)) ⟨⟨M, S⟩, drawn_of lS hn1 (by omega) hM0 hM4 okS, ?_⟩) fun d hd => ⟨hd, rfl⟩
    unfold basinD
    rw [show (⟨M, S⟩ : Basin).n = n from lS, List.length_range]
    rfl
theorem rights_of {B : Basin} {R : List Right} (hl : R.length ≤ 4) (h : ∀ r, r ∈ R → r.site < B.n ∧ r.dem.length = B.M ∧ ∀ x ∈ r.dem, 0 ≤ x) : Rts B R := ⟨⟨fun r hr => (h r hr).1, fun r hr => (h r hr).2.1, fun r hr => (h r hr).2.2⟩, hl⟩
abbrev s__law_rights : Stmt := tp 58
theorem sc__law_rights : FnScope ["_law_box", "_law_basin_here", "_law_most", "_law_names", "_law_found", "_law_k", "_law_site"] ["_law_box", "_law_basin_here", "_law_most"] (defScope s__law_rights) := ⟨rfl, rfl, rfl, by decide +kernel, rfl, by decide +kernel, by decide +kernel⟩
def d__law_rights (ds : List PyData) (R : PyData → Prop) : Prop := ∃ B, Bas B ∧ 0 < B.n ∧ ds = [basinD B, .int 3] ∧ R = fun d => ∃ R', Rts B R' ∧ d = rightsD R'
theorem ok__law_rights {f : Addr} {fd : FuncData} (F : Fun K "_law_rights" "_law_rights" s__law_rights f fd) (T : Txt K mg CA CN CS)
    (G__law_demands : FnF P w K mg base 2 "_law_demands" ["_law_box", "_law_months"] (spB 1 d__law_demands))
    (G__law_draw : FnF P w K mg base 1 "_law_draw" ["_law_box", "_law_many"] (spB 1 d__law_draw)) : FnOk P w K mg base CX0 3 f fd ["_law_box", "_law_basin_here", "_law_most"] (spB 2 d__law_rights) := by
  refine F.ok sc__law_rights (fun vs H Q E h => ?_) (fun cdv A outer s H vs Q E hr h => ?_)
  · exact spB_len h
  refine ⟨_, (pss_cons (ps_setLc (i := 3) (own := [("_law_site", 6)]) rfl sc__law_rights.nd rfl rfl (sw_true rfl rfl rfl (by decide +kernel)) (pi_tupK (K := K) rfl (pe_ix (ix_tupK (K := K) rfl) (pv 1) pe_int (fun _ _ => rfl))) (blkOk_by (own := [("_law_site", 6)]) (N := ["_law_box", "_law_basin_here", "_law_most", "_law_names", "_law_found", "_law_k", "_law_site"]) (sc := (defScope s__law_rights)) (by decide +kernel))
   (fun _ _ _ _ _ => (pg_name (i := 6) sc__law_rights.nd rfl (Or.inl rfl)))
   (fun _ _ _ _ _ => pts_nil)
   (fun _ _ _ _ _ => (pe_ix (ix_tupK (K := K) rfl) (pv 6) pe_int (fun _ _ => rfl))))
 (pss_cons (ps_set (i := 4) sc__law_rights.nd rfl (Or.inl rfl) (pe_lst pa_nil))
 (pss_cons (ps_for PassesOwn.never rfl (pi_range1 rfl T.b_range (pa_cons (pe_fn G__law_draw (hr.mono (by decide)) rfl (pa_cons (pv 0) (pa_cons (pe_op op_add (pv 2) pe_int) pa_nil))) pa_nil)) (pg_name (i := 5) sc__law_rights.nd rfl (Or.inl rfl))
  (pss_one (ps_expr (pe_bm PySem.F.plainAttrs_list PySem.F.slot_list_append PySem.F.type_list_append mt_append (pv 4) (pa_cons (pe_tup (pa_cons (pe_op op_add_str pe_str (pe_ix ix_str pe_str (pe_callTy call_int1 rfl T.b_int (by decide +kernel) (pa_cons (pv 5) pa_nil)) (fun _ _ => rfl))) (pa_cons (pe_ix (ix_lisK (K := K) rfl) (pv 3) (pe_op op_mod (pe_callTy call_int1 rfl T.b_int (by decide +kernel) (pa_cons (pe_fn G__law_draw (hr.mono (by decide)) rfl (pa_cons (pv 0) (pa_cons pe_int pa_nil))) pa_nil)) (pe_callB (call_lenK (K := K) rfl) rfl T.b_len PySem.boot_len (pa_cons (pv 3) pa_nil))) (fun _ _ => rfl)) (pa_cons (pe_fn G__law_demands (hr.mono (by decide)) rfl (pa_cons (pv 0) (pa_cons (pe_ix (ix_tupK (K := K) rfl) (pv 1) pe_int (fun _ _ => rfl)) pa_nil))) pa_nil)))) pa_nil)))))
 (pss_one (ps_ret (pe_callTy (call_tupK (K := K) rfl) rfl T.b_tuple (by decide +kernel) (pa_cons (pv 4) pa_nil))))))), ?_⟩
  refine sf_run h ?_
  rintro H0 B0 p dg _ _ ⟨B, hB, hn0, rfl, rfl⟩
  have hn := hB.n
  have hM := hB.M
  let ND : PyData := .list ((List.range B.n).map fun k => .str (nm k))
  refine sf_seq (sf_asgE (d := ND) (ed_lc1 (fun k => .str (nm k)) (EdI.weak (ei_tup (L := List.range B.n) (emb := fun k => siteD k (B.site k)) (by walk_at "ed"))) (by simp; omega) ?_) ?_)
  · intro i k hk
    exact ⟨_, by walk_at "gd", by walk_at "ed"⟩
  refine sf_seq (sf_new rfl ?_)
  intro q hq
  have hpq : p ≠ q := hq.1
  have hqp : q ≠ p := fun z => hpq z.symm
  let RD' : List Right → Nat → List PyData := fun R i => (List.range i).map fun k => rightD k (rt R k)
  refine sf_seq (sf_forE (Pn := fun m => m ≤ 3) (efa_mono (efa_cons (ef_draw (many := 4) rfl (by exact ⟨hqp, trivial⟩) (by walk_at "ed") (by decide)) efa_nil) ?_) (fun i ρ1 => ∃ (R : List Right) (a : Sv), R.length = i ∧ (∀ r, r ∈ R → r.site < B.n ∧ r.dem.length = B.M ∧ ∀ x ∈ r.dem, 0 ≤ x) ∧ flat a ∧ ρ1 = [.box p dg, .dat (basinD B), .dat (.int 3), .dat ND, .lat q (RD' R i), a, .any]) ⟨[], .any, rfl, fun r h => by simp at h, flat_any, rfl⟩ ?_ ?_)
  · rintro _ ⟨_, _, rfl, ⟨z, rfl, h0, h1⟩, rfl⟩
    refine ⟨z.toNat, ?_, by omega, by omega⟩
    rw [show ((z.toNat : Nat) : Int) = z by omega]
  · rintro m k ρ1 hm hk ⟨R, a, lR, okR, fa, rfl⟩
    have hk4 : k < 4 := by omega
    refine sf_app (p := q) (R1 := fun d => ∃ r : Right, d = rightD k r ∧ r.site < B.n ∧ r.dem.length = B.M ∧ ∀ x ∈ r.dem, 0 ≤ x) rfl ⟨hpq, by exact trivial⟩ (ef_tup (efa_cons (R1 := fun d => d = .str (rnm k)) (ef_ed (ed_op ed_str (ed_op ed_str (ed_cb (by walk_at "ed") rc_intI) (rd_ixS (by decide) (abcd hk4))) (rd_addS (by show 1 + 1 ≤ _; decide))) rfl)
      (efa_cons (R1 := fun d => ∃ s, d = .str (nm s) ∧ s < B.n) (ef_op (R1 := fun d => d = ND) (Rq := fun d => ∃ s : Nat, d = natD s ∧ s < B.n) (ef_ed (ed_var rfl) rfl) (ef_op (R1 := fun d => ∃ z : Int, d = .int z) (Rq := fun d => d = natD B.n) (ef_cb1 (R1 := Below 90) (ef_draw (many := 90) rfl (by exact ⟨hqp, trivial⟩) ed_int (by decide)) ?_) (ef_ed (ed_is (ed_lenL (el_ed (ed_var rfl))) (by rw [List.length_map, List.length_range]; rfl)) rfl) ?_) ?_)
      (efa_cons (ef_box (R := fun d => ∃ xs : List Int, d = intsD xs ∧ xs.length = B.M ∧ ∀ x ∈ xs, 0 ≤ x ∧ x < 7) rfl (by exact ⟨hqp, trivial⟩) (ea_cons (d := natD B.M) (by walk_at "ed") ea_nil) rfl ⟨B.M, hM, rfl, rfl⟩) efa_nil))) ?_) (by simp [RD']; omega) ?_
    · rintro d ⟨z, rfl, h0, h1⟩
      exact ⟨.int z, rc_intI, z, rfl⟩
    · rintro d e ⟨z, rfl⟩ rfl
      have hpos : (0 : Int) < (B.n : Nat) := by omega
      have h0 := Int.emod_nonneg z (show ((B.n : Nat) : Int) ≠ 0 by omega)
      have h1 := Int.emod_lt_of_pos z hpos
      refine ⟨.int (z % (B.n : Nat)), rd_mod hpos, (z % (B.n : Nat)).toNat, ?_, by omega⟩
      show PyData.int _ = PyData.int _
      congr 1
      omega
    · exact fun d e hd he => (by
        obtain ⟨s, rfl, hs⟩ := he
        subst hd
        exact ⟨.str (nm s), rd_ixL (at_rng hs), s, rfl, hs⟩)
    · rintro _ ⟨_, _, rfl, rfl, _, _, rfl, ⟨s, rfl, hs⟩, _, _, rfl, ⟨xs, rfl, hxl, hxs⟩, rfl⟩
      exact ⟨Nat.le_of_ble_eq_true rfl, ⟨s, xs⟩, rfl, hs, hxl, fun x hx => (hxs x hx).1⟩
    · rintro d ⟨r, rfl, hr⟩
      refine ⟨R ++ [r], .dat (natD k), by rw [List.length_append, lR]; rfl, fun r' h => ?_, flat_dat, ?_⟩
      · rcases List.mem_append.mp h with h | h
        · exact okR r' h
        · rw [List.mem_singleton.mp h]
          exact hr
      · have e1 : RD' (R ++ [r]) (k + 1) = RD' R k ++ [rightD k r] := by
          simp only [RD', List.range_succ, List.map_append, List.map_cons, List.map_nil]
          congr 1
          · refine List.map_congr_left fun j hj => ?_
            have hj := List.mem_range.mp hj
            unfold rt
            rw [List.getD_eq_getElem?_getD, List.getD_eq_getElem?_getD, List.getElem?_append_left (by omega)]
          · unfold rt
            rw [List.getD_eq_getElem?_getD, List.getElem?_append_right (by omega), lR, Nat.sub_self]
            rfl
        rw [e1]
        rfl
  · rintro m ρ1 hm ⟨R, a, lR, okR, fa, rfl⟩
    refine sf_ret (R1 := fun d => ∃ R', Rts B R' ∧ d = rightsD R') (ef_ed (ed_tupA rfl) ⟨R, rights_of (by omega) okR, ?_⟩) fun d hd => ⟨hd, rfl⟩
    unfold rightsD
    rw [lR]
end HW
end
section
/-! HWN1: flows: what stands in the heap; arcs, adding, the steps from a place. -/
namespace HW
open PySem PySem.Spec PyProof.Rows L2
variable {P : Program} {w : World} {K : PySem.W.Frag} {mg : Str → Option Value} {base : Heap} {CA CN CS : Addr}
/-! fields -/
theorem lk_ne {a b : Str} {v : V} {r : List (Str × V)} (h : (a == b) = false) : List.lookup a ((b, v) :: r) = List.lookup a r := by rw [List.lookup_cons, h]
theorem lk_eq {a : Str} {v : V} {r : List (Str × V)} : List.lookup a ((a, v) :: r) = some v := by rw [List.lookup_cons, beq_self_eq_true]
theorem pf_ne {a b : Str} {u v : V} {r : List (Str × V)} (h : (a == b) = false) : putF a v ((b, u) :: r) = (b, u) :: putF a v r := by
  show (if b = a then _ else _) = _
  rw [if_neg fun z => by subst z; rw [beq_self_eq_true] at h; cases h]
theorem pf_eq {a : Str} {u v : V} {r : List (Str × V)} : putF a v ((a, u) :: r) = (a, v) :: r := if_pos rfl
theorem pf_nil {a : Str} {v : V} : putF a v [] = [(a, v)] := rfl
def arcF (t h m : V) (f : Int) (x : Bool) : List (Str × V) := [("tail", t), ("head", h), ("most", m), ("flow", .int f), ("is_fixed", .bl x)]
section
variable {t h m : V} {f z : Int} {x y : Bool}
theorem arc_tail : (arcF t h m f x).lookup ("tail" : Str) = some t := lk_eq
theorem arc_head : (arcF t h m f x).lookup ("head" : Str) = some h := by
  unfold arcF
  rw [lk_ne (by decide +kernel), lk_eq]
theorem arc_most : (arcF t h m f x).lookup ("most" : Str) = some m := by
  unfold arcF
  rw [lk_ne (by decide +kernel), lk_ne (by decide +kernel), lk_eq]
theorem arc_flow : (arcF t h m f x).lookup ("flow" : Str) = some (.int f) := by
  unfold arcF
  rw [lk_ne (by decide +kernel), lk_ne (by decide +kernel), lk_ne (by decide +kernel), lk_eq]
theorem arc_fix : (arcF t h m f x).lookup ("is_fixed" : Str) = some (.bl x) := by
  unfold arcF
  rw [lk_ne (by decide +kernel), lk_ne (by decide +kernel), lk_ne (by decide +kernel), lk_ne (by decide +kernel), lk_eq]
theorem arc_ahead : (arcF t h m f x).lookup ("ahead" : Str) = none := by
  unfold arcF
  rw [lk_ne (by decide +kernel), lk_ne (by decide +kernel), lk_ne (by decide +kernel), lk_ne (by decide +kernel), lk_ne (by decide +kernel)]
  rfl
theorem arc_back : (arcF t h m f x).lookup ("back" : Str) = none := by
  unfold arcF
  rw [lk_ne (by decide +kernel), lk_ne (by decide +kernel), lk_ne (by decide +kernel), lk_ne (by decide +kernel), lk_ne (by decide +kernel)]
  rfl
theorem arc_putFlow : putF "flow" (.int z) (arcF t h m f x) = arcF t h m z x := by
  unfold arcF
  rw [pf_ne (by decide +kernel), pf_ne (by decide +kernel), pf_ne (by decide +kernel), pf_eq]
theorem arc_putFix : putF "is_fixed" (.bl y) (arcF t h m f x) = arcF t h m f y := by
  unfold arcF
  rw [pf_ne (by decide +kernel), pf_ne (by decide +kernel), pf_ne (by decide +kernel), pf_ne (by decide +kernel), pf_eq]
end
def netF (vb : V) (ds dr la : Addr) : List (Str × V) := [("basin", vb), ("storages", .ref ds), ("releases", .ref dr), ("arcs", .ref la)]
section
variable {vb : V} {ds dr la : Addr}
theorem net_basin : (netF vb ds dr la).lookup ("basin" : Str) = some vb := lk_eq
theorem net_sto : (netF vb ds dr la).lookup ("storages" : Str) = some (.ref ds) := by
  unfold netF
  rw [lk_ne (by decide +kernel), lk_eq]
theorem net_rel : (netF vb ds dr la).lookup ("releases" : Str) = some (.ref dr) := by
  unfold netF
  rw [lk_ne (by decide +kernel), lk_ne (by decide +kernel), lk_eq]
theorem net_arcs : (netF vb ds dr la).lookup ("arcs" : Str) = some (.ref la) := by
  unfold netF
  rw [lk_ne (by decide +kernel), lk_ne (by decide +kernel), lk_ne (by decide +kernel), lk_eq]
theorem net_no {a : Str} (h1 : (a == ("basin" : Str)) = false) (h2 : (a == ("storages" : Str)) = false) (h3 : (a == ("releases" : Str)) = false) (h4 : (a == ("arcs" : Str)) = false) : (netF vb ds dr la).lookup a = none := by
  unfold netF
  rw [lk_ne h1, lk_ne h2, lk_ne h3, lk_ne h4]
  rfl
end
/-! nodes as data -/
def nodeD : Node → PyData
  | .src => .str "source"
  | .cell s m => cellD (s, m)
def optV : Option Int → V
  | none => .non
  | some c => .int c
def KeepT (H H' : Hp) : Prop := ∀ a xs, H a = some (.tup xs) → H' a = some (.tup xs)
theorem KeepT.of {H H' : Hp} (e : Ex H H') : KeepT H H' := fun a xs h => e a _ h
theorem KeepT.trans {H H1 H2 : Hp} (a : KeepT H H1) (b : KeepT H1 H2) : KeepT H H2 := fun x xs h => b x xs (a x xs h)
theorem node_keep {H H' : Hp} {p : Node} {v : V} (k : KeepT H H') (h : Dq H (nodeD p) v) : Dq H' (nodeD p) v := by
  cases p with
  | src => exact h
  | cell s m =>
    obtain ⟨a, xs, rfl, h1, h2⟩ := h
    exact ⟨a, xs, rfl, k a xs h1, by
      match xs, h2 with
      | [x, y], h2 => exact ⟨h2.1, h2.2.1, trivial⟩⟩
theorem node_shp (p : Node) : SeqAt.shaped (nodeD p) = true := by
  cases p with
  | src => decide +kernel
  | cell s m => rfl
theorem node_eqv (p q : Node) : PyData.eqv (nodeD p) (nodeD q) = decide (p = q) := by
  cases p with
  | src => cases q with
    | src => decide +kernel
    | cell s m => rfl
  | cell s m => cases q with
    | src => rfl
    | cell s' m' =>
      show PyData.eqv (cellD (s, m)) (cellD (s', m')) = _
      rw [eqv_cell]
      exact decide_eq_decide.mpr ⟨fun e => by cases e; rfl, fun e => by cases e; rfl⟩
/-- two lists, place by place -/
def P2 {α β : Type} (R : α → β → Prop) : List α → List β → Prop
  | [], [] => True
  | a :: as, b :: bs => R a b ∧ P2 R as bs
  | [], _ :: _ => False
  | _ :: _, [] => False
theorem P2.len {α β : Type} {R : α → β → Prop} : ∀ {as : List α} {bs : List β}, P2 R as bs → bs.length = as.length
  | [], [], _ => rfl
  | _ :: _, _ :: _, h => by rw [List.length_cons, List.length_cons, P2.len h.2]
  | [], _ :: _, h => h.elim
  | _ :: _, [], h => h.elim
theorem P2.app {α β : Type} {R : α → β → Prop} {as' : List α} {bs' : List β} (k : P2 R as' bs') : ∀ {as : List α} {bs : List β}, P2 R as bs → P2 R (as ++ as') (bs ++ bs')
  | [], [], _ => k
  | _ :: _, _ :: _, h => ⟨h.1, P2.app k h.2⟩
  | [], _ :: _, h => h.elim
  | _ :: _, [], h => h.elim
theorem P2.one {α β : Type} {R : α → β → Prop} {a : α} {b : β} (h : R a b) : P2 R [a] [b] := ⟨h, trivial⟩
theorem P2.mono {α β : Type} {R S : α → β → Prop} (f : ∀ a b, R a b → S a b) : ∀ {as : List α} {bs : List β}, P2 R as bs → P2 S as bs
  | [], [], _ => trivial
  | _ :: _, _ :: _, h => ⟨f _ _ h.1, P2.mono f h.2⟩
  | [], _ :: _, h => h.elim
  | _ :: _, [], h => h.elim
theorem P2.get {α β : Type} {R : α → β → Prop} : ∀ {as : List α} {bs : List β} {i : Nat} {b : β}, P2 R as bs → bs[i]? = some b → ∃ a, as[i]? = some a ∧ R a b
  | [], [], _, _, _, h => by simp at h
  | a :: _, b :: _, 0, c, h, hi => ⟨a, rfl, by cases (show some b = some c from hi); exact h.1⟩
  | _ :: as, _ :: bs, i + 1, c, h, hi => by
    obtain ⟨a, h1, h2⟩ := P2.get (i := i) h.2 (by simpa using hi)
    exact ⟨a, by simpa using h1, h2⟩
  | [], _ :: _, _, _, h, _ => h.elim
  | _ :: _, [], _, _, h, _ => h.elim
/-! a network in the heap -/
structure NG where
  B : Basin
  ad : AId → Addr
  ax : AId → Addr
  tv : AId → V
  hv : AId → V
  nw : Addr
  nx : Addr
  vb : V
  ds : Addr
  dr : Addr
  la : Addr
def stoC (B : Basin) : List (Nat × Nat) := B.cells.filter fun c => decide (c.2 + 1 < B.M)
def relC (B : Basin) : List (Nat × Nat) := B.cells.filter fun c => (B.letTo c.1 c.2).isSome
structure NetAt (CA CN : Addr) (H : Hp) (g : NG) (f : AId → Int) (fx : AId → Bool) : Prop where
  net : H g.nw = some (.ins CN g.nx (netF g.vb g.ds g.dr g.la))
  bas : Dq H (basinD g.B) g.vb
  lst : H g.la = some (.lst (g.B.ids.map fun i => .ref (g.ad i)))
  inj : ∀ i ∈ g.B.ids, ∀ j ∈ g.B.ids, g.ad i = g.ad j → i = j
  no : ∀ i ∈ g.B.ids, g.ad i ≠ g.nw
  arc : ∀ i ∈ g.B.ids, H (g.ad i) = some (.ins CA (g.ax i) (arcF (g.tv i) (g.hv i) (optV (g.B.net.most i)) (f i) (fx i)))
  tl : ∀ i ∈ g.B.ids, Dq H (nodeD (g.B.net.tl i)) (g.tv i)
  hd : ∀ i ∈ g.B.ids, Dq H (nodeD (g.B.net.hd i)) (g.hv i)
  sto : H g.ds = some (.dT ((stoC g.B).map fun c => (keyC c, .ref (g.ad (.sto c.1 c.2)))))
  rel : H g.dr = some (.dT ((relC g.B).map fun c => (keyC c, .ref (g.ad (.rel c.1 c.2)))))
def imm : PyData → Bool
  | .list _ => false
  | .tuple ds => immAll ds
  | _ => true
where immAll : List PyData → Bool
  | [] => true
  | d :: ds => imm d && immAll ds
mutual
theorem Dq.keepT {H H' : Hp} (k : KeepT H H') : ∀ {d : PyData} {v : V}, imm d = true → Dq H d v → Dq H' d v
  | .none, _, _, h => h
  | .bool _, _, _, h => h
  | .int _, _, _, h => h
  | .str _, _, _, h => h
  | .list _, _, i, _ => by simp [imm] at i
  | .tuple ds, _, i, ⟨a, xs, e1, h1, h2⟩ => ⟨a, xs, e1, k a xs h1, DqAll.keepT k (by simpa [imm] using i) h2⟩
  | .dict _, _, _, h => h.elim
theorem DqAll.keepT {H H' : Hp} (k : KeepT H H') : ∀ {ds : List PyData} {vs : List V}, imm.immAll ds = true → DqAll H ds vs → DqAll H' ds vs
  | [], [], _, _ => trivial
  | d :: ds, v :: vs, i, h => by
    have i' : imm d = true ∧ imm.immAll ds = true := by simpa [imm.immAll] using i
    exact ⟨Dq.keepT k i'.1 h.1, DqAll.keepT k i'.2 h.2⟩
  | [], _ :: _, _, h => h.elim
  | _ :: _, [], _, h => h.elim
end
theorem immAll_map {α : Type} {L : List α} {f : α → PyData} (h : ∀ x, imm (f x) = true) : imm.immAll (L.map f) = true := by
  induction L with
  | nil => rfl
  | cons a L ih => rw [List.map_cons]; simp [imm.immAll, h a, ih]
theorem imm_ints (ns : List Int) : imm (intsD ns) = true := by
  unfold intsD
  simp only [imm]
  exact immAll_map fun _ => rfl
theorem imm_site (k : Nat) (s : Site) : imm (siteD k s) = true := by
  have h1 : imm (nxtD s.nxt) = true := by cases s.nxt <;> rfl
  have h2 : imm (optD s.reach) = true := by cases s.reach <;> rfl
  have h3 := imm_ints s.infl
  unfold siteD
  simp [imm, imm.immAll, h1, h2, h3, natD]
theorem imm_basin (B : Basin) : imm (basinD B) = true := by
  have h := immAll_map (L := List.range B.n) (f := fun k => siteD k (B.site k)) fun k => imm_site k _
  unfold basinD
  simp [imm, imm.immAll, h, natD]
theorem imm_rights (R : List Right) : imm (rightsD R) = true := by
  have h := immAll_map (L := List.range R.length) (f := fun k => rightD k (rt R k)) fun k => by
    have h3 := imm_ints (rt R k).dem
    unfold rightD
    simp [imm, imm.immAll, h3]
  unfold rightsD
  simp [imm, h]
theorem NetAt.ex {CA CN : Addr} {H H' : Hp} {g : NG} {f : AId → Int} {fx : AId → Bool} (n : NetAt CA CN H g f fx) (e : Ex H H') : NetAt CA CN H' g f fx :=
  ⟨e _ _ n.net, n.bas.mono e, e _ _ n.lst, n.inj, n.no, fun i hi => e _ _ (n.arc i hi), fun i hi => (n.tl i hi).mono e, fun i hi => (n.hd i hi).mono e, e _ _ n.sto, e _ _ n.rel⟩
/-! promises -/
def spArcI (CA : Addr) : Sp := fun vs H Q _ => ∃ (x dx : Addr) (t h m : V), vs = [.ref x, t, h, m] ∧ H x = some (.ins CA dx []) ∧ ∀ H' : Hp, H' x = some (.ins CA dx (arcF t h m 0 false)) → (∀ b o, H b = some o → b ≠ x → H' b = some o) → Q .non H'
def aheadV (o : Option Int) (f : Int) (x : Bool) : V := if x = true then .int 0 else match o with
  | none => .non
  | some c => .int (c - f)
def spAhead (CA : Addr) : Sp := fun vs H Q _ => ∃ (a dx : Addr) (t h : V) (o : Option Int) (f : Int) (x : Bool), vs = [.ref a] ∧ H a = some (.ins CA dx (arcF t h (optV o) f x)) ∧ Q (aheadV o f x) H
def spBack (CA : Addr) : Sp := fun vs H Q _ => ∃ (a dx : Addr) (t h m : V) (f : Int) (x : Bool), vs = [.ref a] ∧ H a = some (.ins CA dx (arcF t h m f x)) ∧ Q (.int (if x = true then 0 else f)) H
abbrev s_Arc___init__ : Stmt := inClass (tp 25) 0
theorem sc_Arc___init__ : FnScope ["self", "tail", "head", "most"] ["self", "tail", "head", "most"] (defScope s_Arc___init__) := ⟨rfl, rfl, rfl, by decide +kernel, rfl, by decide +kernel, by decide +kernel⟩
theorem ok_Arc___init__ {f : Addr} {fd : FuncData} (F : Fun K "__init__" "Arc.__init__" s_Arc___init__ f fd) (T : Txt K mg CA CN CS)
     : FnOk P w K mg base CX0 1 f fd ["self", "tail", "head", "most"] (spArcI CA) := by
  refine F.ok sc_Arc___init__ (fun vs H Q E h => ?_) (fun cdv A outer s H vs Q E hr h => ?_)
  · obtain ⟨_, _, _, _, _, rfl, _⟩ := h; rfl
  refine ⟨_, (pss_cons (ps_fld (pv 0) (pv 1) rfl)
 (pss_cons (ps_fld (pv 0) (pv 2) rfl)
 (pss_cons (ps_fld (pv 0) (pv 3) rfl)
 (pss_cons (ps_fld (pv 0) pe_int rfl)
 (pss_one (ps_fld (pv 0) pe_bl rfl)))))), ?_⟩
  obtain ⟨x, dx, t, h, m, rfl, hx, q⟩ := h
  refine ⟨_, rfl, _, rfl, x, CA, dx, [], rfl, hx, T.clA, T.a_tail, (by show 0 < 1000; decide), ?_⟩
  refine ⟨_, rfl, _, rfl, x, CA, dx, _, rfl, upd_same, T.clA, T.a_head, (by show 1 < 1000; decide), ?_⟩
  have e1 : putF "head" h (putF "tail" t []) = ([("tail", t), ("head", h)] : List (Str × V)) := by rw [pf_nil, pf_ne (by decide +kernel), pf_nil]
  refine ⟨_, rfl, _, rfl, x, CA, dx, _, rfl, upd_same, T.clA, T.a_most, (by rw [e1]; show 2 < 1000; decide), ?_⟩
  rw [e1]
  have e2 : putF "most" m ([("tail", t), ("head", h)] : List (Str × V)) = ([("tail", t), ("head", h), ("most", m)] : List (Str × V)) := by rw [pf_ne (by decide +kernel), pf_ne (by decide +kernel), pf_nil]
  refine ⟨_, rfl, x, CA, dx, _, rfl, upd_same, T.clA, T.a_flow, (by rw [e2]; show 3 < 1000; decide), ?_⟩
  rw [e2]
  have e3 : putF "flow" (.int 0) ([("tail", t), ("head", h), ("most", m)] : List (Str × V)) = ([("tail", t), ("head", h), ("most", m), ("flow", .int 0)] : List (Str × V)) := by rw [pf_ne (by decide +kernel), pf_ne (by decide +kernel), pf_ne (by decide +kernel), pf_nil]
  refine ⟨_, rfl, x, CA, dx, _, rfl, upd_same, T.clA, T.a_is_fixed, (by rw [e3]; show 4 < 1000; decide), ?_⟩
  rw [e3]
  have e4 : putF "is_fixed" (.bl false) ([("tail", t), ("head", h), ("most", m), ("flow", .int 0)] : List (Str × V)) = arcF t h m 0 false := by rw [pf_ne (by decide +kernel), pf_ne (by decide +kernel), pf_ne (by decide +kernel), pf_ne (by decide +kernel), pf_nil]; rfl
  rw [e4]
  exact q _ upd_same fun b o hb hne => by rw [upd_ne hne, upd_ne hne, upd_ne hne, upd_ne hne, upd_ne hne]; exact hb
abbrev s_Arc_ahead : Stmt := inClass (tp 25) 1
theorem sc_Arc_ahead : FnScope ["self"] ["self"] (defScope s_Arc_ahead) := ⟨rfl, rfl, rfl, by decide +kernel, rfl, by decide +kernel, by decide +kernel⟩
theorem ok_Arc_ahead {f : Addr} {fd : FuncData} (F : Fun K "ahead" "Arc.ahead" s_Arc_ahead f fd) (T : Txt K mg CA CN CS)
     : FnOk P w K mg base CX0 1 f fd ["self"] (spAhead CA) := by
  refine F.ok sc_Arc_ahead (fun vs H Q E h => ?_) (fun cdv A outer s H vs Q E hr h => ?_)
  · obtain ⟨_, _, _, _, _, _, _, rfl, _⟩ := h; rfl
  refine ⟨_, (pss_cons (ps_if (pt_val (pe_fldK (K := K) rfl (pv 0) rfl))
  (pss_one (ps_ret pe_int))
  pss_nil)
 (pss_one (ps_ret (pe_ifExp (pt_cmpR op_isN (pe_fldK (K := K) rfl (pv 0) rfl) pe_non (nomark _)) pe_non (pe_op op_sub (pe_fldK (K := K) rfl (pv 0) rfl) (pe_fldK (K := K) rfl (pv 0) rfl)))))), ?_⟩
  obtain ⟨a, dx, t, h, o, f', x, rfl, ha, q⟩ := h
  refine ⟨_, rfl, a, CA, dx, _, _, rfl, ha, T.clA, T.a_is_fixed, arc_fix, x, rfl, ?_⟩
  cases x with
  | true => exact ifT rfl q
  | false =>
    refine ifF rfl ?_
    refine ⟨_, rfl, a, CA, dx, _, _, rfl, ha, T.clA, T.a_most, arc_most, rfl, _, rfl, ?_⟩
    cases o with
    | none => exact ifT rfl q
    | some c =>
      refine ifF rfl ?_
      exact ⟨_, rfl, a, CA, dx, _, _, rfl, ha, T.clA, T.a_most, arc_most, _, rfl, a, CA, dx, _, _, rfl, ha, T.clA, T.a_flow, arc_flow, _, _, rfl, rfl, q⟩
abbrev s_Arc_back : Stmt := inClass (tp 25) 2
theorem sc_Arc_back : FnScope ["self"] ["self"] (defScope s_Arc_back) := ⟨rfl, rfl, rfl, by decide +kernel, rfl, by decide +kernel, by decide +kernel⟩
theorem ok_Arc_back {f : Addr} {fd : FuncData} (F : Fun K "back" "Arc.back" s_Arc_back f fd) (T : Txt K mg CA CN CS)
     : FnOk P w K mg base CX0 1 f fd ["self"] (spBack CA) := by
  refine F.ok sc_Arc_back (fun vs H Q E h => ?_) (fun cdv A outer s H vs Q E hr h => ?_)
  · obtain ⟨_, _, _, _, _, _, _, rfl, _⟩ := h; rfl
  refine ⟨_, (pss_one (ps_ret (pe_ifExp (pt_val (pe_fldK (K := K) rfl (pv 0) rfl)) pe_int (pe_fldK (K := K) rfl (pv 0) rfl)))), ?_⟩
  obtain ⟨a, dx, t, h, m, f', x, rfl, ha, q⟩ := h
  refine ⟨_, rfl, a, CA, dx, _, _, rfl, ha, T.clA, T.a_is_fixed, arc_fix, x, rfl, ?_⟩
  cases x with
  | true => exact ifT rfl q
  | false => exact ifF rfl ⟨_, rfl, a, CA, dx, _, _, rfl, ha, T.clA, T.a_flow, arc_flow, q⟩
/-- add: the new arc at the end of the list -/
def spAdd (CA CN : Addr) : Sp := fun vs H Q _ => ∃ (nw dx la : Addr) (fs : List (Str × V)) (t h m : V) (xs : List V), vs = [.ref nw, t, h, m] ∧ H nw = some (.ins CN dx fs) ∧ fs.lookup ("arcs" : Str) = some (.ref la) ∧ H la = some (.lst xs) ∧ xs.length < 1000 ∧
  ∀ (a ax : Addr) (H' : Hp), H a = none → H' a = some (.ins CA ax (arcF t h m 0 false)) → H' la = some (.lst (xs ++ [.ref a])) → (∀ b o, H b = some o → b ≠ la → H' b = some o) → Q (.ref a) H'
abbrev s_Network_add : Stmt := inClass (tp 27) 1
theorem sc_Network_add : FnScope ["self", "tail", "head", "most", "arc"] ["self", "tail", "head", "most"] (defScope s_Network_add) := ⟨rfl, rfl, rfl, by decide +kernel, rfl, by decide +kernel, by decide +kernel⟩
theorem ok_Network_add {f : Addr} {fd : FuncData} (F : Fun K "add" "Network.add" s_Network_add f fd) (T : Txt K mg CA CN CS)
    (I_Arc : InF P w K mg base CA 1 "Arc" ["self", "tail", "head", "most"] (spArcI CA)) : FnOk P w K mg base CX0 3 f fd ["self", "tail", "head", "most"] (spAdd CA CN) := by
  refine F.ok sc_Network_add (fun vs H Q E h => ?_) (fun cdv A outer s H vs Q E hr h => ?_)
  · obtain ⟨_, _, _, _, _, _, _, _, rfl, _⟩ := h; rfl
  refine ⟨_, (pss_cons (ps_set (i := 4) sc_Network_add.nd rfl (Or.inl rfl) (pe_mk I_Arc (hr.mono (by decide)) rfl (pa_cons (pv 1) (pa_cons (pv 2) (pa_cons (pv 3) pa_nil)))))
 (pss_cons (ps_expr (pe_bm PySem.F.plainAttrs_list PySem.F.slot_list_append PySem.F.type_list_append mt_append (pe_fldK (K := K) rfl (pv 0) rfl) (pa_cons (pv 4) pa_nil)))
 (pss_one (ps_ret (pv 4))))), ?_⟩
  obtain ⟨nw, dx, la, fs, t, h, m, xs, rfl, hn, hl, hla, hz, q⟩ := h
  refine ⟨_, rfl, _, rfl, _, rfl, ?_⟩
  intro a ax na nax ne
  refine ⟨a, ax, t, h, m, rfl, upd_same, fun H1 h1 k1 => ⟨rfl, ?_⟩⟩
  have keep : ∀ b o, H b = some o → H1 b = some o := fun b o hb => k1 b o (by rw [upd_ne (ne_of_none hb na), upd_ne (ne_of_none hb nax)]; exact hb) (ne_of_none hb na)
  have hal : a ≠ la := (ne_of_none hla na).symm
  refine ⟨_, rfl, nw, CN, dx, fs, _, rfl, keep _ _ hn, T.clN, T.n_arcs, hl, .inl ⟨rfl, xs, SqL.of (keep _ _ hla)⟩, _, rfl, la, xs, .ref a, rfl, rfl, keep _ _ hla, Nat.lt_of_lt_of_le hz (by decide), ?_⟩
  refine ⟨_, rfl, q a ax _ na ?_ upd_same fun b o hb hne => ?_⟩
  · rw [upd_ne hal]
    exact h1
  · rw [upd_ne hne]
    exact keep b o hb
end HW
end
section
/-! HWN2: the steps from a place; the way back. -/
namespace HW
open PySem PySem.Spec PyProof.Rows L2
variable {P : Program} {w : World} {K : PySem.W.Frag} {mg : Str → Option Value} {base : Heap} {CA CN CS : Addr}
theorem flatMap_le {α β : Type} {k : α → List β} {n : Nat} (h : ∀ a, (k a).length ≤ n) : ∀ l : List α, (l.flatMap k).length ≤ n * l.length
  | [] => Nat.zero_le _
  | a :: l => by
    rw [List.flatMap_cons, List.length_append, List.length_cons]
    have := flatMap_le h l
    have := h a
    rw [Nat.mul_succ]
    omega
theorem ids_len {B : Basin} (hB : Bas B) : B.ids.length ≤ 48 := by
  have h1 := flatMap_le (n := 3) (k := fun c : Nat × Nat => AId.src c.1 c.2 :: ((if c.2 + 1 < B.M then [AId.sto c.1 c.2] else []) ++ (if (B.letTo c.1 c.2).isSome = true then [AId.rel c.1 c.2] else []))) (fun c => by
    rw [List.length_cons, List.length_append]
    have a1 : (if c.2 + 1 < B.M then [AId.sto c.1 c.2] else []).length ≤ 1 := by split <;> simp
    have a2 : (if (B.letTo c.1 c.2).isSome = true then [AId.rel c.1 c.2] else []).length ≤ 1 := by split <;> simp
    omega) B.cells
  have h2 : B.cells.length ≤ 16 := by rw [cells_len]; exact Nat.mul_le_mul hB.M hB.n
  have e : B.ids.length ≤ 3 * B.cells.length := h1
  omega
def stepAmt (o : Option Int) (f : Int) (up : Bool) : V := if up = true then aheadV o f false else .int f
def StepV (g : NG) (f : AId → Int) (H : Hp) (st : Step AId) (v : V) : Prop := ∃ t, v = .ref t ∧ H t = some (.tup [.ref (g.ad st.i), .bl st.up, (if st.up = true then g.hv st.i else g.tv st.i), stepAmt (g.B.net.most st.i) (f st.i) st.up])
theorem StepV.keep {g : NG} {f : AId → Int} {H H' : Hp} {st : Step AId} {v : V} (k : KeepT H H') (h : StepV g f H st v) : StepV g f H' st v := by
  obtain ⟨t, e, h⟩ := h
  exact ⟨t, e, k _ _ h⟩
def spSteps (CA CN : Addr) : Sp := fun vs H Q _ => ∃ (g : NG) (f : AId → Int) (fx : AId → Bool) (p : Node) (pv : V), vs = [.ref g.nw, pv] ∧ Bas g.B ∧ NetAt CA CN H g f fx ∧ Dq H (nodeD p) pv ∧
  ∀ (l : Addr) (xs : List V) (H' : Hp), H l = none → Ex H H' → H' l = some (.lst xs) → P2 (StepV g f H') (stepsOf g.B.net f fx p) xs → Q (.ref l) H'
def half1 (N : Net AId Node) (f : AId → Int) (fx : AId → Bool) (p : Node) (i : AId) : List (Step AId) := if N.tl i = p ∧ (fx i = false ∧ N.most i ≠ some (f i)) then [⟨i, true⟩] else []
def half2 (N : Net AId Node) (f : AId → Int) (fx : AId → Bool) (p : Node) (i : AId) : List (Step AId) := if N.hd i = p ∧ (fx i = false ∧ 0 < f i) then [⟨i, false⟩] else []
theorem stepsOf_eq (N : Net AId Node) (f : AId → Int) (fx : AId → Bool) (p : Node) : stepsOf N f fx p = N.ids.flatMap fun i => half1 N f fx p i ++ half2 N f fx p i := rfl
theorem ahead_ne {o : Option Int} {f : Int} : (!PyData.eqv (match o with | none => PyData.none | some c => .int (c - f)) (.int 0)) = decide (o ≠ some f) := by
  cases o with
  | none => rfl
  | some c =>
    show (!PyData.eqv (.int (c - f)) (.int 0)) = _
    rw [eqv_int]
    by_cases h : c = f
    · subst h
      rw [decide_eq_true (by omega), decide_eq_false (by intro z; exact z rfl)]
      rfl
    · rw [decide_eq_false (by omega), decide_eq_true (by intro z; cases z; exact h rfl)]
      rfl
abbrev s_Network_steps : Stmt := inClass (tp 27) 2
theorem sc_Network_steps : FnScope ["self", "place", "found", "arc"] ["self", "place"] (defScope s_Network_steps) := ⟨rfl, rfl, rfl, by decide +kernel, rfl, by decide +kernel, by decide +kernel⟩
theorem ok_Network_steps {f : Addr} {fd : FuncData} (F : Fun K "steps" "Network.steps" s_Network_steps f fd) (T : Txt K mg CA CN CS)
    (M_Arc_ahead : MtF P w K mg base CA 1 "ahead" ["self"] (spAhead CA))
    (M_Arc_back : MtF P w K mg base CA 1 "back" ["self"] (spBack CA)) : FnOk P w K mg base CX0 2 f fd ["self", "place"] (spSteps CA CN) := by
  refine F.ok sc_Network_steps (fun vs H Q E h => ?_) (fun cdv A outer s H vs Q E hr h => ?_)
  · obtain ⟨_, _, _, _, _, rfl, _⟩ := h; rfl
  refine ⟨_, (pss_cons (ps_set (i := 2) sc_Network_steps.nd rfl (Or.inl rfl) (pe_lst pa_nil))
 (pss_cons (ps_for PassesOwn.never rfl (pi_listK (K := K) rfl (pe_fldK (K := K) rfl (pv 0) rfl)) (pg_name (i := 3) sc_Network_steps.nd rfl (Or.inl rfl))
  (Evl.pss_cut (ps_if (PW.pt (pw_and (pt_cmpR (op_eqK (K := K) rfl hr.units) (pe_fldK (K := K) rfl (pv 3) rfl) (pv 1) (nomark _)) (pw_and1 (pt_cmpR (op_neK (K := K) rfl hr.units) (pe_mt0 M_Arc_ahead T.clA (hr.mono (by decide)) (pv 3)) pe_int (nomark _)))))
  (pss_one (ps_expr (pe_bm PySem.F.plainAttrs_list PySem.F.slot_list_append PySem.F.type_list_append mt_append (pv 2) (pa_cons (pe_tup (pa_cons (pv 3) (pa_cons pe_bl (pa_cons (pe_fldK (K := K) rfl (pv 3) rfl) (pa_cons (pe_mt0 M_Arc_ahead T.clA (hr.mono (by decide)) (pv 3)) pa_nil))))) pa_nil))))
  pss_nil)
 (pss_one (ps_if (PW.pt (pw_and (pt_cmpR (op_eqK (K := K) rfl hr.units) (pe_fldK (K := K) rfl (pv 3) rfl) (pv 1) (nomark _)) (pw_and1 (pt_cmpR op_gt (pe_mt0 M_Arc_back T.clA (hr.mono (by decide)) (pv 3)) pe_int (nomark _)))))
  (pss_one (ps_expr (pe_bm PySem.F.plainAttrs_list PySem.F.slot_list_append PySem.F.type_list_append mt_append (pv 2) (pa_cons (pe_tup (pa_cons (pv 3) (pa_cons pe_bl (pa_cons (pe_fldK (K := K) rfl (pv 3) rfl) (pa_cons (pe_mt0 M_Arc_back T.clA (hr.mono (by decide)) (pv 3)) pa_nil))))) pa_nil))))
  pss_nil))))
 (pss_one (ps_ret (pv 2))))), ?_⟩
  obtain ⟨g, f', fx, p, pv, rfl, hB, n, hp, q⟩ := h
  have hids := ids_len hB
  let N := g.B.net
  let S : Nat → List (Step AId) := fun k => (g.B.ids.take k).flatMap fun i => half1 N f' fx p i ++ half2 N f' fx p i
  have SL : ∀ k, (S k).length ≤ 96 := fun k => by
    have h1 := flatMap_le (n := 2) (k := fun i => half1 N f' fx p i ++ half2 N f' fx p i) (fun i => by
      rw [List.length_append]
      have a1 : (half1 N f' fx p i).length ≤ 1 := by unfold half1; split <;> simp
      have a2 : (half2 N f' fx p i).length ≤ 1 := by unfold half2; split <;> simp
      omega) (g.B.ids.take k)
    have h2 : (g.B.ids.take k).length ≤ 48 := by rw [List.length_take]; omega
    show ((g.B.ids.take k).flatMap _).length ≤ 96
    omega
  refine ⟨by decide, fun l hl => ?_⟩
  have e0 : Ex H (upd H l (.lst [])) := Evl.Ex.new hl
  refine ⟨_, rfl, g.nw, CN, g.nx, _, _, rfl, e0 _ _ n.net, T.clN, T.n_arcs, net_arcs, g.la, rfl, ⟨_, SqL.of (e0 _ _ n.lst)⟩, ?_⟩
  refine for_list (xs := g.B.ids.map fun i => .ref (g.ad i)) (fun k σ H' => ∃ acc s3, σ = [some (.ref g.nw), some pv, some (.ref l), s3] ∧ Ex H H' ∧ H' l = some (.lst acc) ∧ P2 (StepV g f' H') (S k) acc)
    ⟨[], none, rfl, e0, upd_same, trivial⟩ (fun k σ H' _ ⟨acc, s3, _, e, _⟩ => SqL.of (e _ _ n.lst)) ?_ ?_
  · rintro k y σ H' hy ⟨acc, s3, rfl, e, hacc, hP⟩
    rw [List.getElem?_map] at hy
    obtain ⟨i, hi, rfl⟩ := Option.map_eq_some_iff.mp hy
    have him : i ∈ g.B.ids := List.mem_of_getElem? hi
    have tk : S (k + 1) = S k ++ (half1 N f' fx p i ++ half2 N f' fx p i) := by
      show (g.B.ids.take (k + 1)).flatMap _ = _
      rw [List.take_succ, hi]
      show (g.B.ids.take k ++ [i]).flatMap _ = _
      rw [List.flatMap_append]
      simp [S]
    have n' := n.ex e
    have ha := n'.arc i him
    have hlen : ∀ {L acc' : List _} {H2 : Hp}, P2 (StepV g f' H2) L acc' → L.length ≤ 97 → acc'.length < sizeLine := fun h1 h2 => Nat.lt_of_lt_of_le (by rw [h1.len]; omega : _ < 100) (by decide)
    -- the first half
    refine ⟨fun σ1 H1 => ∃ acc1, σ1 = [some (.ref g.nw), some pv, some (.ref l), some (.ref (g.ad i))] ∧ Ex H H1 ∧ H1 l = some (.lst acc1) ∧ P2 (StepV g f' H1) (S k ++ half1 N f' fx p i) acc1, ?_, ?_⟩
    · refine ⟨_, rfl, g.ad i, CA, g.ax i, _, _, rfl, ha, T.clA, T.a_tail, arc_tail, _, rfl, nodeD (N.tl i), nodeD p, (n'.tl i him).dp, (hp.mono e).dp, node_shp _, node_shp _, _, rfl, ?_⟩
      rw [node_eqv]
      by_cases ht : N.tl i = p
      · refine ifT (decide_eq_true ht) ?_
        refine ⟨_, rfl, g.ad i, g.ax i, _, rfl, ha, arc_ahead, g.ad i, g.ax i, _, _, _, _, _, rfl, ha, ?_⟩
        cases hx : fx i with
        | true =>
          refine ⟨.int 0, .int 0, (show Dq H' (.int 0) (.int 0) from rfl).dp, (show Dq H' (.int 0) (.int 0) from rfl).dp, rfl, rfl, _, rfl, ?_⟩
          refine ifF (by decide +kernel) ⟨acc, rfl, e, hacc, ?_⟩
          unfold half1
          rw [if_neg (fun z => by rw [hx] at z; cases z.2.1), List.append_nil]
          exact hP
        | false =>
          have hav : Dq H' (match N.most i with | none => PyData.none | some c => .int (c - f' i)) (aheadV (N.most i) (f' i) false) := by
            unfold aheadV
            cases N.most i <;> rfl
          refine ⟨_, .int 0, hav.dp, (show Dq H' (.int 0) (.int 0) from rfl).dp, (by cases N.most i <;> rfl), rfl, _, rfl, ?_⟩
          rw [ahead_ne]
          by_cases hm : N.most i ≠ some (f' i)
          · refine ifT (decide_eq_true hm) ?_
            refine ⟨_, rfl, .inl ⟨rfl, acc, SqL.of hacc⟩, _, rfl, _, rfl, g.ad i, CA, g.ax i, _, _, rfl, ha, T.clA, T.a_head, arc_head, _, rfl, g.ad i, g.ax i, _, rfl, ha, arc_ahead, g.ad i, g.ax i, _, _, _, _, _, rfl, ha, (by show 4 ≤ sizeLine; decide), fun t ht' => ?_⟩
            have hlt : l ≠ t := ne_of_none hacc ht'
            have e2 : Ex H' (upd H' t (.tup [.ref (g.ad i), .bl true, g.hv i, aheadV (N.most i) (f' i) (fx i)])) := Evl.Ex.new ht'
            refine ⟨l, acc, .ref t, rfl, rfl, e2 _ _ hacc, hlen hP (by have := SL k; omega), acc ++ [.ref t], rfl, ?_, upd_same, ?_⟩
            · exact Evl.Ex.mut (e.trans e2) hl
            · have h1 : half1 N f' fx p i = [⟨i, true⟩] := by
                unfold half1
                rw [if_pos ⟨ht, hx, hm⟩]
              rw [h1]
              refine P2.app (P2.one ⟨t, rfl, ?_⟩) (P2.mono (fun st v z => z.keep (KeepT.trans (KeepT.of e2) fun b xs hb => ?_)) hP)
              · rw [upd_ne hlt.symm, upd_same, hx]
                rfl
              · rw [upd_ne (fun z => by subst z; rw [e2 _ _ hacc] at hb; cases hb)]
                exact hb
          · refine ifF (decide_eq_false hm) ⟨acc, rfl, e, hacc, ?_⟩
            unfold half1
            rw [if_neg (fun z => hm z.2.2), List.append_nil]
            exact hP
      · refine ifF (decide_eq_false ht) ⟨acc, rfl, e, hacc, ?_⟩
        unfold half1
        rw [if_neg (fun z => ht z.1), List.append_nil]
        exact hP
    · rintro σ1 H1 ⟨acc1, rfl, e1, hacc1, hP1⟩
      have n1 := n.ex e1
      have ha1 := n1.arc i him
      have fin : ∀ {H2 : Hp} {acc2 : List V}, Ex H H2 → H2 l = some (.lst acc2) → P2 (StepV g f' H2) (S k ++ half1 N f' fx p i ++ half2 N f' fx p i) acc2 → P2 (StepV g f' H2) (S (k + 1)) acc2 := fun _ _ h => by
        rw [tk, ← List.append_assoc]
        exact h
      have none_ : (¬ (N.hd i = p ∧ (fx i = false ∧ 0 < f' i))) → P2 (StepV g f' H1) (S (k + 1)) acc1 := fun h => fin e1 hacc1 (by
        unfold half2
        rw [if_neg h, List.append_nil]
        exact hP1)
      have L1 : (S k ++ half1 N f' fx p i).length ≤ 97 := by
        rw [List.length_append]
        have := SL k
        have : (half1 N f' fx p i).length ≤ 1 := by unfold half1; split <;> simp
        omega
      refine ⟨_, rfl, g.ad i, CA, g.ax i, _, _, rfl, ha1, T.clA, T.a_head, arc_head, _, rfl, nodeD (N.hd i), nodeD p, (n1.hd i him).dp, (hp.mono e1).dp, node_shp _, node_shp _, _, rfl, ?_⟩
      rw [node_eqv]
      by_cases ht : N.hd i = p
      · refine ifT (decide_eq_true ht) ?_
        refine ⟨_, rfl, g.ad i, g.ax i, _, rfl, ha1, arc_back, g.ad i, g.ax i, _, _, _, _, _, rfl, ha1, _, _, rfl, rfl, _, rfl, ?_⟩
        by_cases hb : fx i = false ∧ 0 < f' i
        · obtain ⟨hx, hf⟩ := hb
          refine ifT (by rw [hx]; exact decide_eq_true hf) ?_
          refine ⟨_, rfl, .inl ⟨rfl, acc1, SqL.of hacc1⟩, _, rfl, _, rfl, g.ad i, CA, g.ax i, _, _, rfl, ha1, T.clA, T.a_tail, arc_tail, _, rfl, g.ad i, g.ax i, _, rfl, ha1, arc_back, g.ad i, g.ax i, _, _, _, _, _, rfl, ha1, (by show 4 ≤ sizeLine; decide), fun t ht' => ?_⟩
          have hlt : l ≠ t := ne_of_none hacc1 ht'
          have e2 : Ex H1 (upd H1 t (.tup [.ref (g.ad i), .bl false, g.tv i, .int (if fx i = true then 0 else f' i)])) := Evl.Ex.new ht'
          refine ⟨l, acc1, .ref t, rfl, rfl, e2 _ _ hacc1, hlen hP1 L1, acc1 ++ [.ref t], _, rfl, Evl.Ex.mut (e1.trans e2) hl, upd_same, ?_⟩
          refine fin (Evl.Ex.mut (e1.trans e2) hl) upd_same ?_
          have h1 : half2 N f' fx p i = [⟨i, false⟩] := by
            unfold half2
            rw [if_pos ⟨ht, hx, hf⟩]
          rw [h1]
          refine P2.app (P2.one ⟨t, rfl, ?_⟩) (P2.mono (fun st v z => z.keep (KeepT.trans (KeepT.of e2) fun b xs hb => ?_)) hP1)
          · rw [upd_ne hlt.symm, upd_same, hx]
            rfl
          · rw [upd_ne (fun z => by subst z; rw [e2 _ _ hacc1] at hb; cases hb)]
            exact hb
        · refine ifF ?_ ⟨acc1, _, rfl, e1, hacc1, none_ fun z => hb z.2⟩
          refine decide_eq_false ?_
          cases hx : fx i with
          | true => rw [if_pos rfl]; omega
          | false =>
            rw [if_neg (by decide)]
            exact fun z => hb ⟨hx, z⟩
      · exact ifF (decide_eq_false ht) ⟨acc1, _, rfl, e1, hacc1, none_ fun z => ht z.1⟩
  · rintro σ H' ⟨acc, s3, rfl, e, hacc, hP⟩
    refine ⟨_, rfl, q l acc H' hl e hacc ?_⟩
    rw [stepsOf_eq]
    rw [List.length_map] at hP
    simp only [S, List.take_length] at hP
    exact hP
end HW
end
section
/-! HWN3: the way back; the search in breadth. -/
namespace HW
open PySem PySem.Spec PyProof.Rows L2
variable {P : Program} {w : World} {K : PySem.W.Frag} {mg : Str → Option Value} {base : Heap} {CA CN CS : Addr}
def nodeK : Node → NestedKey
  | .src => .text "source"
  | .cell s m => .tup [.num s, .num m]
theorem nodeK_inj {p q : Node} (h : nodeK p = nodeK q) : p = q := by
  cases p with
  | src => cases q with
    | src => rfl
    | cell s m => cases h
  | cell s m => cases q with
    | src => cases h
    | cell s' m' =>
      have h1 : (s : Int) = s' := by injection h with h; injection h with a b; injection a
      have h2 : (m : Int) = m' := by injection h with h; injection h with a b; injection b with a b; injection a
      rw [show s = s' by omega, show m = m' by omega]
theorem node_key {H : Hp} {p : Node} {v : V} (h : Dq H (nodeD p) v) : KeyV H (nodeK p) v := by
  cases p with
  | src => exact .inl ⟨_, rfl, h⟩
  | cell s m =>
    obtain ⟨a, xs, rfl, h1, h2⟩ := h
    match xs, h2 with
    | [x, y], h2 =>
      cases (show x = V.int s from h2.1)
      cases (show y = V.int m from h2.2.1)
      exact .inr ⟨s, m, a, rfl, rfl, h1⟩
/-- what stands by a reached place -/
def FromV (g : NG) (f : AId → Int) (H : Hp) : Option (Node × Step AId) → V → Prop
  | none, v => v = .non
  | some (p, st), v => ∃ t pv sv, v = .ref t ∧ H t = some (.tup [pv, sv]) ∧ Dq H (nodeD p) pv ∧ StepV g f H st sv
theorem FromV.keep {g : NG} {f : AId → Int} {H H' : Hp} {o : Option (Node × Step AId)} {v : V} (k : KeepT H H') (h : FromV g f H o v) : FromV g f H' o v := by
  match o, h with
  | none, h => exact h
  | some (p, st), h =>
    obtain ⟨t, pv, sv, e, h1, h2, h3⟩ := h
    exact ⟨t, pv, sv, e, k _ _ h1, node_keep k h2, h3.keep k⟩
def RowV (g : NG) (f : AId → Int) (H : Hp) (r : Node × Option (Node × Step AId)) (a : A3) : Prop := a.1 = nodeK r.1 ∧ FromV g f H r.2 a.2.2
def RchAt (w : World) (H : Hp) (d : Addr) (g : NG) (f : AId → Int) (R : Rch AId Node) : Prop := ∃ ps, MixD w H d ps ∧ P2 (RowV g f H) R ps
theorem at3_cons {x : A3} {ps : List A3} {k : NestedKey} : at3 (x :: ps) k = if x.1 = k then some x.2.2 else at3 ps k := by
  unfold at3
  rw [List.find?_cons]
  by_cases h : x.1 = k
  · rw [if_pos h, decide_eq_true h]
    rfl
  · rw [if_neg h, decide_eq_false h]
theorem at3_no {g : NG} {f : AId → Int} {H : Hp} {q : Node} : ∀ {R : Rch AId Node} {ps : List A3}, P2 (RowV g f H) R ps → ¬ q ∈ keys R → at3 ps (nodeK q) = none
  | [], [], _, _ => rfl
  | r :: R, x :: ps, h, hn => by
    rw [at3_cons, if_neg fun z => hn (by rw [h.1.1] at z; rw [nodeK_inj z.symm]; exact List.mem_cons_self)]
    exact at3_no h.2 fun z => hn (List.mem_cons_of_mem _ z)
  | [], _ :: _, h, _ => h.elim
  | _ :: _, [], h, _ => h.elim
theorem at3_yes {g : NG} {f : AId → Int} {H : Hp} {q : Node} {o : Option (Node × Step AId)} : ∀ {R : Rch AId Node} {ps : List A3}, P2 (RowV g f H) R ps → (keys R).Nodup → (q, o) ∈ R → ∃ v, at3 ps (nodeK q) = some v ∧ FromV g f H o v
  | [], _, _, _, hm => by simp at hm
  | r :: R, x :: ps, h, nd, hm => by
    obtain ⟨n1, n2⟩ := List.nodup_cons.mp nd
    rcases List.mem_cons.mp hm with e | hm
    · subst e
      exact ⟨x.2.2, by rw [at3_cons, if_pos h.1.1], h.1.2⟩
    · obtain ⟨v, h1, h2⟩ := at3_yes h.2 n2 hm
      refine ⟨v, ?_, h2⟩
      rw [at3_cons, if_neg fun z => n1 (by
        rw [h.1.1] at z
        show r.1 ∈ R.map (fun x => x.1)
        rw [nodeK_inj z]
        exact List.mem_map.mpr ⟨_, hm, rfl⟩)]
      exact h1
  | _ :: _, [], h, _, _ => h.elim
theorem RchAt.keep {g : NG} {f : AId → Int} {H H' : Hp} {d : Addr} {R : Rch AId Node} (k : KeepT H H') (e : H' d = H d) (h : RchAt w H d g f R) : RchAt w H' d g f R := by
  obtain ⟨ps, m, p⟩ := h
  exact ⟨ps, ⟨by rw [e]; exact m.at_, fun q hq => (m.keys q hq).keep k, m.nd, m.fits⟩, p.mono fun r a z => ⟨z.1, z.2.keep k⟩⟩
def spBackW (w : World) (CA CN : Addr) : Sp := fun vs H Q _ => ∃ (g : NG) (f : AId → Int) (R : Rch AId Node) (path : List (Step AId)) (e : Node) (v0 ev : V) (d : Addr), vs = [v0, .ref d, ev] ∧ RchAt w H d g f R ∧ (keys R).Nodup ∧ Back g.B.net R e path ∧ path.length ≤ 1000 ∧ Dq H (nodeD e) ev ∧
  ∀ (l : Addr) (xs : List V) (H' : Hp), Ex H H' → H' l = some (.lst xs) → P2 (StepV g f H') path xs → Q (.ref l) H'
abbrev s_Network_steps_back : Stmt := inClass (tp 27) 4
theorem sc_Network_steps_back : FnScope ["self", "reached", "end", "found", "place", "before", "step"] ["self", "reached", "end"] (defScope s_Network_steps_back) := ⟨rfl, rfl, rfl, by decide +kernel, rfl, by decide +kernel, by decide +kernel⟩
theorem ok_Network_steps_back {f : Addr} {fd : FuncData} (F : Fun K "steps_back" "Network.steps_back" s_Network_steps_back f fd) (T : Txt K mg CA CN CS)
     : FnOk P w K mg base CX0 1 f fd ["self", "reached", "end"] (spBackW w CA CN) := by
  refine F.ok sc_Network_steps_back (fun vs H Q E h => ?_) (fun cdv A outer s H vs Q E hr h => ?_)
  · obtain ⟨_, _, _, _, _, _, _, _, rfl, _⟩ := h; rfl
  refine ⟨_, (pss_cons (ps_set (i := 3) sc_Network_steps_back.nd rfl (Or.inl rfl) (pe_lst pa_nil))
 (pss_cons (ps_set (i := 4) sc_Network_steps_back.nd rfl (Or.inl rfl) (pv 2))
 (pss_cons (ps_while PassesOwn.never (pt_cmpR op_notN (pe_mget (mix_room hr) (pv 1) (pv 4) (fun _ _ => rfl)) pe_non (nomark _))
  (pss_cons (ps_asg (pe_mget (mix_room hr) (pv 1) (pv 4) (fun _ _ => rfl)) (pg_tupK (n := 2) (K := K) rfl rfl (pgs_cons (pg_name (i := 5) sc_Network_steps_back.nd rfl (Or.inl rfl)) (pgs_cons (pg_name (i := 6) sc_Network_steps_back.nd rfl (Or.inl rfl)) pgs_nil))))
 (pss_cons (ps_expr (pe_bm PySem.F.plainAttrs_list PySem.F.slot_list_append PySem.F.type_list_append mt_append (pv 3) (pa_cons (pv 6) pa_nil)))
 (pss_one (ps_set (i := 4) sc_Network_steps_back.nd rfl (Or.inl rfl) (pv 5))))))
 (pss_one (ps_ret (pv 3)))))), ?_⟩
  obtain ⟨g, f', R, path, en, v0, ev, d, rfl, hR, nd, hB, hlen, he, q⟩ := h
  refine ⟨by decide, fun l hl => ?_⟩
  have e0 : Ex H (upd H l (.lst [])) := Evl.Ex.new hl
  have rch : ∀ {H' : Hp}, Ex H H' → RchAt w H' d g f' R := fun e => by
    refine hR.keep (KeepT.of e) ?_
    obtain ⟨ps, m, _⟩ := hR
    rw [m.at_, e _ _ m.at_]
  refine ⟨_, rfl, fun m σ H' => ∃ (dn rest : List (Step AId)) (acc : List V) (pv : V) (s5 s6 : Option V) (p : Node), path = dn ++ rest ∧ m = rest.length ∧ Back g.B.net R p rest ∧ σ = [some v0, some (.ref d), some ev, some (.ref l), some pv, s5, s6] ∧ Dq H' (nodeD p) pv ∧ Ex H H' ∧ H' l = some (.lst acc) ∧ P2 (StepV g f' H') dn acc,
    ⟨path.length, [], path, [], ev, none, none, en, rfl, rfl, hB, rfl, he.mono e0, e0, upd_same, trivial⟩, ?_⟩
  rintro m σ H' ⟨dn, rest, acc, pv, s5, s6, p, rfl, rfl, hb, rfl, hp, e, hacc, hP⟩
  obtain ⟨ps, mx, pr⟩ := rch e
  cases rest with
  | nil =>
    obtain ⟨v, h1, h2⟩ := at3_yes pr nd (show (p, none) ∈ R from hb)
    cases (show v = V.non from h2)
    refine ⟨_, rfl, _, rfl, d, ps, nodeK p, .non, rfl, mx, node_key hp, h1, rfl, _, rfl, ?_⟩
    refine ifF rfl ?_
    rw [List.append_nil] at q
    exact ⟨_, rfl, q l acc H' e hacc hP⟩
  | cons st rest =>
    obtain ⟨hb1, hb2⟩ := hb
    obtain ⟨v, h1, t, pv', sv, rfl, ht, hpv, hsv⟩ := at3_yes pr nd hb1
    refine ⟨_, rfl, _, rfl, d, ps, nodeK p, .ref t, rfl, mx, node_key hp, h1, rfl, _, rfl, ?_⟩
    refine ifT rfl ⟨fun σ' H' => ∃ m', m' < (st :: rest).length ∧ ∃ (dn' rest' : List (Step AId)) (acc : List V) (pv : V) (s5 s6 : Option V) (p : Node), dn ++ st :: rest = dn' ++ rest' ∧ m' = rest'.length ∧ Back g.B.net R p rest' ∧ σ' = [some v0, some (.ref d), some ev, some (.ref l), some pv, s5, s6] ∧ Dq H' (nodeD p) pv ∧ Ex H H' ∧ H' l = some (.lst acc) ∧ P2 (StepV g f' H') dn' acc, fun σ' H' z => z, ?_⟩
    refine ⟨_, rfl, _, rfl, d, ps, nodeK p, .ref t, rfl, mx, node_key hp, h1, t, [pv', sv], rfl, SqT.of ht, rfl, pv', [sv], rfl, sv, [], rfl, rfl, ?_⟩
    have hacl : acc.length < 100000 := by
      rw [hP.len]
      rw [List.length_append] at hlen
      omega
    refine ⟨_, rfl, .inl ⟨rfl, acc, SqL.of hacc⟩, _, rfl, l, acc, sv, rfl, rfl, hacc, Nat.lt_of_lt_of_le hacl (by decide), ?_⟩
    have kt : KeepT H' (upd H' l (.lst (acc ++ [sv]))) := fun b xs hb => by
      rw [upd_ne (fun z => by subst z; rw [hacc] at hb; cases hb)]
      exact hb
    refine ⟨_, rfl, rest.length, by simp, dn ++ [st], rest, acc ++ [sv], pv', _, _, g.B.net.out st, by simp, rfl, hb2, rfl, node_keep kt hpv, Evl.Ex.mut e hl, upd_same, P2.app (P2.one (hsv.keep kt)) (hP.mono fun a b z => z.keep kt)⟩
theorem into_keep {g : NG} {f : AId → Int} {fx : AId → Bool} {H : Hp} (n : NetAt CA CN H g f fx) {st : Step AId} (hi : st.i ∈ g.B.ids) : Dq H (nodeD (g.B.net.into st)) (if st.up = true then g.hv st.i else g.tv st.i) := by
  unfold Net.into
  cases st.up with
  | true => exact n.hd _ hi
  | false => exact n.tl _ hi
def spWay (CA CN : Addr) : Sp := fun vs H Q _ => ∃ (g : NG) (f : AId → Int) (fx : AId → Bool) (b e : Node) (bv ev : V), vs = [.ref g.nw, bv, ev] ∧ Bas g.B ∧ NetAt CA CN H g f fx ∧ Dq H (nodeD b) bv ∧ Dq H (nodeD e) ev ∧
  (∀ (path : List (Step AId)) (l : Addr) (xs : List V) (H' : Hp), Way g.B.net f fx b e path → path.length ≤ 1000 → Ex H H' → H' l = some (.lst xs) → P2 (StepV g f H') path xs → Q (.ref l) H') ∧
  ∀ (X : Node → Bool) (H' : Hp), Cut g.B.net f fx b e X → Ex H H' → Q .non H'
abbrev s_Network_way : Stmt := inClass (tp 27) 3
theorem sc_Network_way : FnScope ["self", "begin", "end", "reached", "todo", "place", "step"] ["self", "begin", "end"] (defScope s_Network_way) := ⟨rfl, rfl, rfl, by decide +kernel, rfl, by decide +kernel, by decide +kernel⟩
theorem ok_Network_way {f : Addr} {fd : FuncData} (F : Fun K "way" "Network.way" s_Network_way f fd) (T : Txt K mg CA CN CS)
    (M_Network_steps : MtF P w K mg base CN 2 "steps" ["self", "place"] (spSteps CA CN))
    (M_Network_steps_back : MtF P w K mg base CN 1 "steps_back" ["self", "reached", "end"] (spBackW w CA CN)) : FnOk P w K mg base CX0 3 f fd ["self", "begin", "end"] (spWay CA CN) := by
  refine F.ok sc_Network_way (fun vs H Q E h => ?_) (fun cdv A outer s H vs Q E hr h => ?_)
  · obtain ⟨_, _, _, _, _, _, _, rfl, _⟩ := h; rfl
  refine ⟨_, (pss_cons (ps_set (i := 3) sc_Network_way.nd rfl (Or.inl rfl) (pe_mnew (mix_room hr) (pv 1) pe_non))
 (pss_cons (ps_set (i := 4) sc_Network_way.nd rfl (Or.inl rfl) (pe_lst (pa_cons (pv 1) pa_nil)))
 (pss_cons (ps_while PassesOwn.never (pt_truth (pv 4) (by intro _; rfl))
  (pss_cons (ps_set (i := 5) sc_Network_way.nd rfl (Or.inl rfl) (pe_bm PySem.F.plainAttrs_list PySem.F.slot_list_pop PySem.F.type_list_pop mt_popAt (pv 4) (pa_cons pe_int pa_nil)))
 (pss_cons (ps_if (pt_cmpR (op_eqK (K := K) rfl hr.units) (pv 5) (pv 2) (nomark _))
  (pss_one (ps_ret (pe_mt M_Network_steps_back T.clN (hr.mono (by decide)) (pv 0) (pa_cons (pv 3) (pa_cons (pv 2) pa_nil)))))
  pss_nil)
 (pss_one (ps_for PassesOwn.never rfl (pi_listK (K := K) rfl (pe_mt M_Network_steps T.clN (hr.mono (by decide)) (pv 0) (pa_cons (pv 5) pa_nil))) (pg_name (i := 6) sc_Network_way.nd rfl (Or.inl rfl))
  (pss_one (ps_if (pt_cmpR (op_mnotin (mix_room hr)) (pe_ix (ix_tupK (K := K) rfl) (pv 6) pe_int (fun _ _ => rfl)) (pv 3) rfl)
  (pss_cons (ps_mput (mix_room hr) (pv 3) (pe_ix (ix_tupK (K := K) rfl) (pv 6) pe_int (fun _ _ => rfl)) (pe_tup (pa_cons (pv 5) (pa_cons (pv 6) pa_nil))) rfl)
 (pss_one (ps_expr (pe_bm PySem.F.plainAttrs_list PySem.F.slot_list_append PySem.F.type_list_append mt_append (pv 4) (pa_cons (pe_ix (ix_tupK (K := K) rfl) (pv 6) pe_int (fun _ _ => rfl)) pa_nil)))))
  pss_nil)))))))
 (pss_one (ps_ret pe_non))))), ?_⟩
  obtain ⟨g, f', fx, b, en, bv, ev, rfl, hB, n, hb, he, qW, qN⟩ := h
  have hids := ids_len hB
  let N := g.B.net
  have tlen : ∀ {R : Rch AId Node}, Tree N f' fx b R → R.length ≤ 97 := fun T => by
    have h1 := T.bound
    have h2 : N.ids.length ≤ 48 := hids
    omega
  -- reached = {begin: None}
  intro d hd
  have e0 : Ex H (upd H d (MixO w d [])) := Evl.Ex.new hd
  refine ⟨_, rfl, upd_same, nodeK b, node_key (hb.mono e0), fun mx => ?_⟩
  have e1 : Ex H (upd (upd H d (MixO w d [])) d (MixO w d [(nodeK b, bv, V.non)])) := Evl.Ex.mut e0 hd
  -- todo = [begin]
  refine ⟨_, rfl, (by show 1 ≤ sizeLine; decide), fun tl htl => ?_⟩
  have hdt : d ≠ tl := ne_of_none mx.at_ htl
  have htl0 : H tl = none := Evl.fresh_back e1 htl
  have e2 := e1.trans (Evl.Ex.new (o := .lst [bv]) htl)
  refine ⟨fun m σ H' => ∃ (R : Rch AId Node) (todo : List Node) (us : List V) (s5 s6 : Option V), m = 2 * (97 - R.length) + todo.length ∧ σ = [some (.ref g.nw), some bv, some ev, some (.ref d), some (.ref tl), s5, s6] ∧ Ex H H' ∧ RchAt w H' d g f' R ∧ H' tl = some (.lst us) ∧ P2 (fun p v => Dq H' (nodeD p) v) todo us ∧ Search N f' fx b en R todo ∧ todo.length ≤ R.length,
    ⟨_, [(b, none)], [b], [bv], none, none, rfl, rfl, e2, ?_, upd_same, ⟨hb.mono e2, trivial⟩, Search.start b en, Nat.le_refl _⟩, ?_⟩
  · refine RchAt.keep (H := upd (upd H d (MixO w d [])) d (MixO w d [(nodeK b, bv, V.non)])) (KeepT.of (Evl.Ex.new htl)) (by rw [upd_ne hdt]; rfl) ⟨_, mx, ⟨⟨rfl, rfl⟩, trivial⟩⟩
  rintro m σ H1 ⟨R, todo, us, s5, s6, rfl, rfl, ex1, hR, hus, hP, S, hle⟩
  cases todo with
  | nil =>
    have : us = [] := List.eq_nil_of_length_eq_zero (by rw [hP.len]; rfl)
    subst this
    refine ⟨_, rfl, _, .inl ⟨[], SqL.of hus, rfl⟩, ?_⟩
    refine ifF rfl ?_
    obtain ⟨X, C⟩ := S.none
    exact qN X H1 C ex1
  | cons p rest =>
    match us, hP with
    | u :: us, hP =>
      obtain ⟨hp, hrest⟩ := hP
      refine ⟨_, rfl, _, .inl ⟨u :: us, SqL.of hus, rfl⟩, ?_⟩
      refine ifT rfl ⟨fun σ' H' => ∃ m', m' < 2 * (97 - R.length) + (p :: rest).length ∧ ∃ (R : Rch AId Node) (todo : List Node) (us : List V) (s5 s6 : Option V), m' = 2 * (97 - R.length) + todo.length ∧ σ' = [some (.ref g.nw), some bv, some ev, some (.ref d), some (.ref tl), s5, s6] ∧ Ex H H' ∧ RchAt w H' d g f' R ∧ H' tl = some (.lst us) ∧ P2 (fun p v => Dq H' (nodeD p) v) todo us ∧ Search N f' fx b en R todo ∧ todo.length ≤ R.length, fun _ _ z => z, ?_⟩
      -- place = todo.pop(0)
      refine ⟨_, rfl, .inl ⟨rfl, _, SqL.of hus⟩, tl, u :: us, 0, 0, u, rfl, rfl, hus, by decide, by decide, (seqIndex_of (Int.le_refl 0) (by simp)).trans rfl, rfl, ?_⟩
      have kt1 : KeepT H1 (upd H1 tl (.lst us)) := fun c xs hc => by
        rw [upd_ne (fun z => by subst z; rw [hus] at hc; cases hc)]
        exact hc
      show (tSeq _ _) _ _ (upd H1 tl (.lst us))
      have ex2 : Ex H (upd H1 tl (.lst us)) := Evl.Ex.mut ex1 htl0
      have hp2 := node_keep kt1 hp
      have hR2 : RchAt w (upd H1 tl (.lst us)) d g f' R := hR.keep kt1 (by rw [upd_ne hdt])
      -- if place == end
      refine ⟨_, rfl, _, rfl, nodeD p, nodeD en, hp2.dp, (he.mono ex2).dp, node_shp _, node_shp _, _, rfl, ?_⟩
      rw [node_eqv]
      by_cases hpe : p = en
      · subst hpe
        refine ifT (decide_eq_true rfl) ?_
        obtain ⟨path, W, Bk⟩ := S.hit
        have plen : path.length ≤ 1000 := by
          have h1 := ids_nodup W.chain W.nd
          have h2 : (path.map fun st => st.i) ⊆ N.ids := fun i hi => by
            obtain ⟨st, hs, rfl⟩ := List.mem_map.mp hi
            exact (W.can st hs).1
          have h3 := h1.length_le_of_subset h2
          rw [List.length_map] at h3
          have h4 : N.ids.length ≤ 48 := hids
          omega
        refine ⟨_, rfl, g.nw, g.nx, _, rfl, (n.ex ex2).net, net_no (by decide +kernel) (by decide +kernel) (by decide +kernel) (by decide +kernel), _, rfl, _, rfl, g, f', R, path, p, .ref g.nw, ev, d, rfl, hR2, S.tree.nd, Bk, plen, he.mono ex2, fun l xs H' e' hl hx => qW path l xs H' W plen (ex2.trans e') hl hx⟩
      · refine ifF (decide_eq_false hpe) ?_
        -- for step in self.steps(place)
        refine ⟨_, rfl, g.nw, g.nx, _, rfl, (n.ex ex2).net, net_no (by decide +kernel) (by decide +kernel) (by decide +kernel) (by decide +kernel), _, rfl, g, f', fx, p, u, rfl, hB, n.ex ex2, hp2, fun ls xs H3 lsn ex3 hls hxs => ⟨ls, rfl, ⟨xs, SqL.of hls⟩, ?_⟩⟩
        have hlsd : ls ≠ d := fun z => by
          subst z
          obtain ⟨ps, m, _⟩ := hR2
          rw [m.at_] at lsn
          cases lsn
        have hlst : ls ≠ tl := fun z => by
          subst z
          rw [upd_same] at lsn
          cases lsn
        have hR3 : RchAt w H3 d g f' R := by
          refine hR2.keep (KeepT.of ex3) ?_
          obtain ⟨ps, m, _⟩ := hR2
          rw [m.at_, ex3 _ _ m.at_]
        have hp3 : Dq H3 (nodeD p) u := hp2.mono ex3
        refine for_list (xs := xs) (fun k σ H' => ∃ (R' : Rch AId Node) (todo' : List Node) (us' : List V) (s6 : Option V), σ = [some (.ref g.nw), some bv, some ev, some (.ref d), some (.ref tl), some u, s6] ∧ Ex H H' ∧ KeepT H3 H' ∧ H' ls = some (.lst xs) ∧ RchAt w H' d g f' R' ∧ H' tl = some (.lst us') ∧ P2 (fun p v => Dq H' (nodeD p) v) todo' us' ∧ Mid N f' fx b en R' todo' p ((stepsOf N f' fx p).take k) ∧ todo'.length + R.length = rest.length + R'.length ∧ R.length ≤ R'.length)
          ⟨R, rest, us, s6, rfl, ex2.trans ex3, fun _ _ z => z, hls, hR3, ex3 _ _ upd_same, hrest.mono fun q v z => node_keep (KeepT.trans kt1 (KeepT.of ex3)) z, S.pop hpe, rfl, Nat.le_refl _⟩ (fun k σ H' _ ⟨_, _, _, _, _, _, _, h, _⟩ => SqL.of h) ?_ ?_
        · rintro k y σ H4 hy ⟨R', todo', us', s6, rfl, ex4, kt4, hls4, hR4, hus4, hP4, M, hcnt, hRR⟩
          obtain ⟨st, hst, t, rfl, ht⟩ := hxs.get hy
          have ht4 := kt4 _ _ ht
          have hmem := List.mem_of_getElem? hst
          obtain ⟨can, hout⟩ := mem_stepsOf.mp hmem
          have tk : (stepsOf N f' fx p).take (k + 1) = (stepsOf N f' fx p).take k ++ [st] := by
            rw [List.take_succ]
            show _ ++ (stepsOf N f' fx p)[k]?.toList = _
            rw [show (stepsOf N f' fx p)[k]? = some st from hst]
            rfl
          have hinto := into_keep (n.ex ex4) can.1
          obtain ⟨ps, mx4, pr4⟩ := id hR4
          -- if step[2] not in reached
          refine ⟨_, rfl, t, _, 2, _, rfl, rfl, SqT.of ht4, rfl, _, rfl, d, ps, nodeK (N.into st), rfl, mx4, node_key hinto, _, rfl, ?_⟩
          by_cases hin : N.into st ∈ keys R'
          · obtain ⟨j, o, ho⟩ := key_at hin
            obtain ⟨v, hv, _⟩ := at3_yes pr4 M.tree.nd (List.mem_of_getElem? ho)
            refine ifF (by rw [hv]; rfl) ⟨R', todo', us', _, rfl, ex4, kt4, hls4, hR4, hus4, hP4, ?_, hcnt, hRR⟩
            rw [tk]
            exact M.old hin
          · have hno := at3_no pr4 hin
            refine ifT (by rw [hno]; rfl) ?_
            -- reached[step[2]] = (place, step)
            refine ⟨_, rfl, _, rfl, (by show 2 ≤ sizeLine; decide), fun t2 ht2 => ?_⟩
            have e5 : Ex H4 (upd H4 t2 (.tup [u, .ref t])) := Evl.Ex.new ht2
            have mx5 : MixD w (upd H4 t2 (.tup [u, .ref t])) d ps := ⟨e5 _ _ mx4.at_, fun q hq => (mx4.keys q hq).keep (KeepT.of e5), mx4.nd, mx4.fits⟩
            have Rlen : ps.length + 1 < 1000 := by
              have h1 := pr4.len
              have h2 := tlen M.tree
              omega
            refine ⟨_, rfl, _, rfl, t, _, 2, _, rfl, rfl, SqT.of (e5 _ _ ht4), rfl, d, ps, nodeK (N.into st), rfl, mx5, node_key (hinto.mono e5), hno, Rlen, fun mx6 => ?_⟩
            have kt6 : KeepT H4 (upd (upd H4 t2 (.tup [u, .ref t])) d (MixO w d (ps ++ [(nodeK (N.into st), (if st.up = true then g.hv st.i else g.tv st.i), .ref t2)]))) := fun c zs hc => by
              rw [upd_ne (ne_of hc mx4.at_ fun z => nomatch z)]
              exact e5 _ _ hc
            have ex6 : Ex H (upd (upd H4 t2 (.tup [u, .ref t])) d (MixO w d (ps ++ [(nodeK (N.into st), (if st.up = true then g.hv st.i else g.tv st.i), .ref t2)]))) := Evl.Ex.mut (ex4.trans e5) hd
            have tl6 : upd (upd H4 t2 (.tup [u, .ref t])) d (MixO w d (ps ++ [(nodeK (N.into st), (if st.up = true then g.hv st.i else g.tv st.i), .ref t2)])) tl = some (.lst us') := by
              rw [upd_ne hdt.symm]
              exact e5 _ _ hus4
            -- todo.append(step[2])
            have uslen : us'.length < 1000 := by
              have h1 := hP4.len
              have h2 := tlen M.tree
              rw [List.length_cons] at hle
              omega
            refine ⟨_, rfl, .inl ⟨rfl, us', SqL.of tl6⟩, _, rfl, t, _, 2, _, rfl, rfl, SqT.of (kt6 _ _ ht4), rfl, tl, us', _, rfl, rfl, tl6, Nat.lt_of_lt_of_le uslen (by decide), R' ++ [(N.into st, some (p, st))], todo' ++ [N.into st], us' ++ [if st.up = true then g.hv st.i else g.tv st.i], _, rfl, Evl.Ex.mut ex6 htl0, ?_, ?_, ?_, upd_same, ?_, ?_, ?_, ?_⟩
            · intro c zs hc
              rw [upd_ne (fun z => by subst z; have h := kt6 _ _ (kt4 _ _ hc); rw [tl6] at h; cases h)]
              exact kt6 _ _ (kt4 _ _ hc)
            · rw [upd_ne hlst, upd_ne hlsd]
              exact e5 _ _ hls4
            · have ktl : KeepT (upd (upd H4 t2 (.tup [u, .ref t])) d (MixO w d (ps ++ [(nodeK (N.into st), (if st.up = true then g.hv st.i else g.tv st.i), .ref t2)]))) (upd (upd (upd H4 t2 (.tup [u, .ref t])) d (MixO w d (ps ++ [(nodeK (N.into st), (if st.up = true then g.hv st.i else g.tv st.i), .ref t2)]))) tl (.lst (us' ++ [if st.up = true then g.hv st.i else g.tv st.i]))) := fun c zs hc => by
                rw [upd_ne (fun z => by subst z; rw [tl6] at hc; cases hc)]
                exact hc
              refine RchAt.keep ktl (by rw [upd_ne hdt]; rfl) ⟨_, mx6, P2.app (P2.one ⟨rfl, t2, u, .ref t, rfl, ?_, node_keep (KeepT.trans kt4 kt6) hp3, t, rfl, kt6 _ _ ht4⟩) (pr4.mono fun r a z => ⟨z.1, z.2.keep kt6⟩)⟩
              rw [upd_ne (fun z => by subst z; rw [mx4.at_] at ht2; cases ht2), upd_same]
            · have ktl : KeepT H4 (upd (upd (upd H4 t2 (.tup [u, .ref t])) d (MixO w d (ps ++ [(nodeK (N.into st), (if st.up = true then g.hv st.i else g.tv st.i), .ref t2)]))) tl (.lst (us' ++ [if st.up = true then g.hv st.i else g.tv st.i]))) := fun c zs hc => by
                rw [upd_ne (fun z => by subst z; rw [hus4] at hc; cases hc)]
                exact kt6 _ _ hc
              exact P2.app (R := fun p v => Dq _ (nodeD p) v) (P2.one (node_keep ktl hinto)) (hP4.mono fun a v z => node_keep ktl z)
            · rw [tk]
              exact M.new hmem hin
            · rw [List.length_append, List.length_append]
              show todo'.length + 1 + R.length = rest.length + (R'.length + 1)
              omega
            · rw [List.length_append]
              omega
        · rintro σ H4 ⟨R', todo', us', s6, rfl, ex4, kt4, hls4, hR4, hus4, hP4, M, hcnt, hRR⟩
          have full : (stepsOf N f' fx p).take xs.length = stepsOf N f' fx p := List.take_of_length_le (by have : xs.length = (stepsOf N f' fx p).length := hxs.len; omega)
          rw [full] at M
          have h2 := tlen M.tree
          refine ⟨2 * (97 - R'.length) + todo'.length, ?_, R', todo', us', _, _, rfl, rfl, ex4, hR4, hus4, hP4, M.done, by rw [List.length_cons] at hle; omega⟩
          rw [List.length_cons] at hle ⊢
          omega
end HW
end
section
/-! HWN4: leading water; an arc's flow made less. -/
namespace HW
open PySem PySem.Spec PyProof.Rows L2
variable {P : Program} {w : World} {K : PySem.W.Frag} {mg : Str → Option Value} {base : Heap} {CA CN CS : Addr}
theorem NetAt.keep {H H' : Hp} {g : NG} {f : AId → Int} {fx : AId → Bool} (n : NetAt CA CN H g f fx) (k : KeepT H H') (fr : ∀ a o, H a = some o → (∀ i ∈ g.B.ids, a ≠ g.ad i) → H' a = some o) {f' : AId → Int} {fx' : AId → Bool}
    (ha : ∀ i ∈ g.B.ids, H' (g.ad i) = some (.ins CA (g.ax i) (arcF (g.tv i) (g.hv i) (optV (g.B.net.most i)) (f' i) (fx' i)))) : NetAt CA CN H' g f' fx' := by
  have ne : ∀ {a : Addr} {o : HO}, H a = some o → (∀ C dx fs, o ≠ .ins C dx fs) → ∀ i ∈ g.B.ids, a ≠ g.ad i := fun h no i hi z => by
    subst z
    rw [n.arc i hi] at h
    cases h
    exact no _ _ _ rfl
  exact ⟨fr _ _ n.net fun i hi z => n.no i hi z.symm, Dq.keepT k (imm_basin _) n.bas, fr _ _ n.lst (ne n.lst fun _ _ _ z => nomatch z), n.inj, n.no, ha, fun i hi => node_keep k (n.tl i hi), fun i hi => node_keep k (n.hd i hi), fr _ _ n.sto (ne n.sto fun _ _ _ z => nomatch z), fr _ _ n.rel (ne n.rel fun _ _ _ z => nomatch z)⟩
/-- an arc written -/
theorem NetAt.write {H : Hp} {g : NG} {f : AId → Int} {fx : AId → Bool} (n : NetAt CA CN H g f fx) {i : AId} (hi : i ∈ g.B.ids) (z : Int) (x : Bool) :
    KeepT H (upd H (g.ad i) (.ins CA (g.ax i) (arcF (g.tv i) (g.hv i) (optV (g.B.net.most i)) z x))) ∧ NetAt CA CN (upd H (g.ad i) (.ins CA (g.ax i) (arcF (g.tv i) (g.hv i) (optV (g.B.net.most i)) z x))) g (put f i z) (fun j => if j = i then x else fx j) := by
  have kt : KeepT H (upd H (g.ad i) (.ins CA (g.ax i) (arcF (g.tv i) (g.hv i) (optV (g.B.net.most i)) z x))) := fun a xs h => by
    rw [upd_ne (fun q => by subst q; rw [n.arc i hi] at h; cases h)]
    exact h
  refine ⟨kt, n.keep kt (fun a o h hn => by rw [upd_ne (hn i hi)]; exact h) fun j hj => ?_⟩
  by_cases e : j = i
  · subst e
    rw [upd_same]
    unfold put
    rw [if_pos rfl, if_pos rfl]
  · rw [upd_ne (fun q => e (n.inj j hj i hi q)), n.arc j hj]
    unfold put
    rw [if_neg e, if_neg e]
def spPush (CA CN : Addr) : Sp := fun vs H Q _ => ∃ (g : NG) (f : AId → Int) (fx : AId → Bool) (b e : Node) (bv ev : V) (most : Int), vs = [.ref g.nw, bv, ev, .int most] ∧ Bas g.B ∧ NetAt CA CN H g f fx ∧ Dq H (nodeD b) bv ∧ Dq H (nodeD e) ev ∧ Feas g.B.net f ∧ 0 ≤ most ∧
  ∀ (t : Int) (f' : AId → Int) (H' : Hp), Pushed g.B.net fx b e most f t f' → (t = most ∨ ∃ X, Cut g.B.net f' fx b e X) → NetAt CA CN H' g f' fx → KeepT H H' → (∀ a o, H a = some o → (∀ i ∈ g.B.ids, a ≠ g.ad i) → H' a = some o) → Q (.int t) H'
def stepOpt (o : Option Int) (f : Int) (up : Bool) : Option Int := if up = true then o.map (fun c => c - f) else some f
theorem stepAmt_eq (o : Option Int) (f : Int) (up : Bool) : stepAmt o f up = optV (stepOpt o f up) := by
  unfold stepAmt stepOpt
  cases up with
  | false => rfl
  | true => cases o <;> rfl
theorem opt_dq {H : Hp} (o : Option Int) : Dq H (optD o) (optV o) := by cases o <;> rfl
theorem allows_min {N : Net AId Node} {f : AId → Int} {fx : AId → Bool} {st : Step AId} (F : Feas N f) (c : Can N f fx st) {a : Int} (ha : 0 < a) : 0 < lmin (stepOpt (N.most st.i) (f st.i) st.up) a ∧ lmin (stepOpt (N.most st.i) (f st.i) st.up) a ≤ a ∧ Allows N f (lmin (stepOpt (N.most st.i) (f st.i) st.up) a) st := by
  obtain ⟨hi, _, h1, h2⟩ := c
  have hf := F st.i hi
  unfold Allows stepOpt lmin
  cases hu : st.up with
  | false =>
    have h2 := h2 hu
    show 0 < min (f st.i) a ∧ min (f st.i) a ≤ a ∧ ((false = true → _) ∧ (false = false → min (f st.i) a ≤ f st.i))
    exact ⟨by omega, by omega, fun z => (by cases z), fun _ => by omega⟩
  | true =>
    have h1 := h1 hu
    cases hm : N.most st.i with
    | none => exact ⟨ha, Int.le_refl _, fun _ c z => (by cases z), fun z => (by cases z)⟩
    | some c =>
      have h3 := hf.2 c hm
      have h4 : c ≠ f st.i := fun z => h1 (by rw [hm, z])
      show 0 < min (c - f st.i) a ∧ min (c - f st.i) a ≤ a ∧ ((true = true → ∀ c', some c = some c' → f st.i + min (c - f st.i) a ≤ c') ∧ (true = false → _))
      exact ⟨by omega, by omega, fun _ c' z => by cases z; omega, fun z => (by cases z)⟩
theorem allows_le {N : Net AId Node} {f : AId → Int} {st : Step AId} {a b : Int} (h : a ≤ b) (al : Allows N f b st) : Allows N f a st :=
  ⟨fun u c e => by have := al.1 u c e; omega, fun u => by have := al.2 u; omega⟩
theorem shoves_snoc (f : AId → Int) (a : Int) (path : List (Step AId)) (st : Step AId) : shoves f a (path ++ [st]) = shove (shoves f a path) a st := by
  unfold shoves
  rw [List.foldl_append]
  rfl
abbrev s_Network_push : Stmt := inClass (tp 27) 5
theorem sc_Network_push : FnScope ["self", "begin", "end", "most", "total", "steps", "amount", "step", "arc", "is_ahead", "_"] ["self", "begin", "end", "most"] (defScope s_Network_push) := ⟨rfl, rfl, rfl, by decide +kernel, rfl, by decide +kernel, by decide +kernel⟩
theorem ok_Network_push {f : Addr} {fd : FuncData} (F : Fun K "push" "Network.push" s_Network_push f fd) (T : Txt K mg CA CN CS)
    (G_least : FnF P w K mg base 1 "least" ["one", "other"] (spD 2 d_least))
    (M_Network_way : MtF P w K mg base CN 3 "way" ["self", "begin", "end"] (spWay CA CN)) : FnOk P w K mg base CX0 4 f fd ["self", "begin", "end", "most"] (spPush CA CN) := by
  refine F.ok sc_Network_push (fun vs H Q E h => ?_) (fun cdv A outer s H vs Q E hr h => ?_)
  · obtain ⟨_, _, _, _, _, _, _, _, rfl, _⟩ := h; rfl
  refine ⟨_, (pss_cons (ps_set (i := 4) sc_Network_push.nd rfl (Or.inl rfl) pe_int)
 (pss_cons (ps_while PassesOwn.never (pt_cmpR op_lt (pv 4) (pv 3) (nomark _))
  (pss_cons (ps_set (i := 5) sc_Network_push.nd rfl (Or.inl rfl) (pe_mt M_Network_way T.clN (hr.mono (by decide)) (pv 0) (pa_cons (pv 1) (pa_cons (pv 2) pa_nil))))
 (pss_cons (ps_if (pt_cmpR op_isN (pv 5) pe_non (nomark _))
  (pss_one ps_break)
  pss_nil)
 (pss_cons (ps_set (i := 6) sc_Network_push.nd rfl (Or.inl rfl) (pe_op op_sub (pv 3) (pv 4)))
 (pss_cons (ps_for PassesOwn.never rfl (pi_listK (K := K) rfl (pv 5)) (pg_name (i := 7) sc_Network_push.nd rfl (Or.inl rfl))
  (pss_one (ps_set (i := 6) sc_Network_push.nd rfl (Or.inl rfl) (pe_fn G_least (hr.mono (by decide)) rfl (pa_cons (pe_ix (ix_tupK (K := K) rfl) (pv 7) pe_int (fun _ _ => rfl)) (pa_cons (pv 6) pa_nil))))))
 (pss_cons (ps_for PassesOwn.never rfl (pi_listK (K := K) rfl (pv 5)) (pg_tupK (n := 4) (K := K) rfl rfl (pgs_cons (pg_name (i := 8) sc_Network_push.nd rfl (Or.inl rfl)) (pgs_cons (pg_name (i := 9) sc_Network_push.nd rfl (Or.inl rfl)) (pgs_cons (pg_name (i := 10) sc_Network_push.nd rfl (Or.inl rfl)) (pgs_cons (pg_name (i := 10) sc_Network_push.nd rfl (Or.inl rfl)) pgs_nil)))))
  (pss_one (ps_fldaug (pv 8) (pe_ifExp (pt_val (pv 9)) (pv 6) (pe_op op_sub pe_int (pv 6))) in_add)))
 (pss_one (ps_aug (i := 4) sc_Network_push.nd rfl (Or.inl rfl) (pv 6) ip_add))))))))
 (pss_one (ps_ret (pv 4))))), ?_⟩
  obtain ⟨g, f', fx, b, en, bv, ev, most, rfl, hB, n, hb, he, F0, hmost, q⟩ := h
  let N := g.B.net
  have ndI : N.ids.Nodup := net_nodup
  refine ⟨fun m σ H' => ∃ (t : Int) (f1 : AId → Int) (s5 s6 s7 s8 s9 s10 : Option V), m = (most - t).toNat ∧ σ = [some (.ref g.nw), some bv, some ev, some (.int most), some (.int t), s5, s6, s7, s8, s9, s10] ∧ Pushed N fx b en most f' t f1 ∧ NetAt CA CN H' g f1 fx ∧ KeepT H H' ∧ (∀ a o, H a = some o → (∀ i ∈ g.B.ids, a ≠ g.ad i) → H' a = some o),
    ⟨_, 0, f', none, none, none, none, none, none, rfl, rfl, Pushed.start F0 hmost, n, fun _ _ z => z, fun _ _ z _ => z⟩, ?_⟩
  rintro m σ H1 ⟨t, f1, s5, s6, s7, s8, s9, s10, rfl, rfl, Pu, n1, kt1, fr1⟩
  refine ⟨_, rfl, _, rfl, _, _, rfl, rfl, _, rfl, ?_⟩
  by_cases hlt : t < most
  · refine ifT (decide_eq_true hlt) ⟨fun σ' H' => ∃ m', m' < (most - t).toNat ∧ ∃ (t : Int) (f1 : AId → Int) (s5 s6 s7 s8 s9 s10 : Option V), m' = (most - t).toNat ∧ σ' = [some (.ref g.nw), some bv, some ev, some (.int most), some (.int t), s5, s6, s7, s8, s9, s10] ∧ Pushed N fx b en most f' t f1 ∧ NetAt CA CN H' g f1 fx ∧ KeepT H H' ∧ (∀ a o, H a = some o → (∀ i ∈ g.B.ids, a ≠ g.ad i) → H' a = some o), fun _ _ z => z, ?_⟩
    -- steps = self.way(begin, end)
    refine ⟨_, rfl, g.nw, g.nx, _, rfl, n1.net, net_no (by decide +kernel) (by decide +kernel) (by decide +kernel) (by decide +kernel), _, rfl, _, rfl, g, f1, fx, b, en, bv, ev, rfl, hB, n1, node_keep kt1 hb, node_keep kt1 he, ?_, ?_⟩
    · intro path ls xs H2 W plen e2 hls hxs
      refine ⟨_, rfl, rfl, _, rfl, ?_⟩
      refine ifF rfl ?_
      -- amount = most - total
      refine ⟨_, rfl, _, rfl, _, _, rfl, rfl, ?_⟩
      -- for step in steps: amount = least(..)
      refine ⟨_, rfl, ls, rfl, ⟨xs, SqL.of hls⟩, ?_⟩
      refine for_list (xs := xs) (fun k σ H' => ∃ (a : Int) (s7 : Option V), σ = [some (.ref g.nw), some bv, some ev, some (.int most), some (.int t), some (.ref ls), some (.int a), s7, s8, s9, s10] ∧ Ex H2 H' ∧ 0 < a ∧ a ≤ most - t ∧ ∀ st ∈ path.take k, Allows N f1 a st)
        ⟨most - t, s7, rfl, .rfl', by omega, Int.le_refl _, fun st h => by simp at h⟩ (fun k σ H' _ ⟨_, _, _, e, _⟩ => SqL.of (e _ _ hls)) ?_ ?_
      · rintro k y σ H3 hy ⟨a, s7, rfl, e3, a0, a1, al⟩
        obtain ⟨st, hst, t', rfl, ht⟩ := hxs.get hy
        have tk : path.take (k + 1) = path.take k ++ [st] := by rw [List.take_succ, hst]; rfl
        obtain ⟨m1, m2, m3⟩ := allows_min Pu.feas (W.can st (List.mem_of_getElem? hst)) a0
        refine ⟨_, rfl, t', _, 3, _, rfl, rfl, SqT.of (e3 _ _ ht), rfl, _, rfl, ?_⟩
        refine ⟨H3, [optD (stepOpt (N.most st.i) (f1 st.i) st.up), .int a], _, .rfl', ⟨by rw [stepAmt_eq]; exact opt_dq _, rfl, trivial⟩, rfl, ⟨_, a, rfl, rfl⟩, fun v H0' H4 l4 hv => ?_⟩
        cases (show v = V.int _ from hv)
        refine ⟨_, _, rfl, e3.trans l4.t, m1, by omega, fun s hs => ?_⟩
        rw [tk] at hs
        rcases List.mem_append.mp hs with hs | hs
        · exact allows_le m2 (al s hs)
        · rw [List.mem_singleton.mp hs]
          exact m3
      · rintro σ H3 ⟨a, s7, rfl, e3, a0, a1, al⟩
        have full : path.take xs.length = path := List.take_of_length_le (by have := hxs.len; omega)
        rw [full] at al
        have e13 := e2.trans e3
        -- for arc, is_ahead, _, _ in steps
        refine ⟨_, rfl, ls, rfl, ⟨xs, SqL.of (e3 _ _ hls)⟩, ?_⟩
        have n3 := n1.ex e13
        have lsn : ∀ i ∈ g.B.ids, ls ≠ g.ad i := fun i hi z => by
          have h1 := e3 _ _ hls
          rw [z, n3.arc i hi] at h1
          cases h1
        refine for_list (xs := xs) (fun k σ H' => ∃ (s8 s9 s10 : Option V), σ = [some (.ref g.nw), some bv, some ev, some (.int most), some (.int t), some (.ref ls), some (.int a), s7, s8, s9, s10] ∧ NetAt CA CN H' g (shoves f1 a (path.take k)) fx ∧ KeepT H3 H' ∧ (∀ c o, H3 c = some o → (∀ i ∈ g.B.ids, c ≠ g.ad i) → H' c = some o))
          ⟨s8, s9, s10, rfl, n3, fun _ _ z => z, fun _ _ z _ => z⟩ (fun k σ H' _ ⟨_, _, _, _, _, _, fr⟩ => SqL.of (fr _ _ (e3 _ _ hls) lsn)) ?_ ?_
        · rintro k y σ H4 hy ⟨s8, s9, s10, rfl, n4, kt4, fr4⟩
          obtain ⟨st, hst, t', rfl, ht⟩ := hxs.get hy
          have hi : st.i ∈ g.B.ids := (W.can st (List.mem_of_getElem? hst)).1
          have tk : path.take (k + 1) = path.take k ++ [st] := by rw [List.take_succ, hst]; rfl
          have nofx : fx st.i = false := (W.can st (List.mem_of_getElem? hst)).2.1
          refine ⟨t', _, rfl, SqT.of (kt4 _ _ (e3 _ _ ht)), rfl, _, _, rfl, _, _, rfl, _, _, rfl, _, _, rfl, rfl, ?_⟩
          refine ⟨_, rfl, g.ad st.i, CA, g.ax st.i, _, _, rfl, n4.arc _ hi, T.clA, T.a_flow, arc_flow, _, rfl, st.up, rfl, ?_⟩
          have fin : ∀ z : Int, z = shoves f1 a (path.take k) st.i + (if st.up = true then a else 0 - a) → ∃ (s8 s9 s10 : Option V), ([some (.ref g.nw), some bv, some ev, some (.int most), some (.int t), some (.ref ls), some (.int a), s7, some (.ref (g.ad st.i)), some (.bl st.up), some (stepAmt (g.B.net.most st.i) (f1 st.i) st.up)] : Slots) = [some (.ref g.nw), some bv, some ev, some (.int most), some (.int t), some (.ref ls), some (.int a), s7, s8, s9, s10] ∧ NetAt CA CN (upd H4 (g.ad st.i) (.ins CA (g.ax st.i) (putF "flow" (.int z) (arcF (g.tv st.i) (g.hv st.i) (optV (g.B.net.most st.i)) (shoves f1 a (path.take k) st.i) (fx st.i))))) g (shoves f1 a (path.take (k + 1))) fx ∧ KeepT H3 (upd H4 (g.ad st.i) (.ins CA (g.ax st.i) (putF "flow" (.int z) (arcF (g.tv st.i) (g.hv st.i) (optV (g.B.net.most st.i)) (shoves f1 a (path.take k) st.i) (fx st.i))))) ∧ (∀ c o, H3 c = some o → (∀ i ∈ g.B.ids, c ≠ g.ad i) → (upd H4 (g.ad st.i) (.ins CA (g.ax st.i) (putF "flow" (.int z) (arcF (g.tv st.i) (g.hv st.i) (optV (g.B.net.most st.i)) (shoves f1 a (path.take k) st.i) (fx st.i))))) c = some o) := fun z hz => by
            rw [arc_putFlow]
            obtain ⟨kt5, n5⟩ := n4.write hi z (fx st.i)
            refine ⟨_, _, _, rfl, ?_, KeepT.trans kt4 kt5, fun c o hc hn => by rw [upd_ne (hn _ hi)]; exact fr4 c o hc hn⟩
            rw [tk, shoves_snoc]
            have e1 : shove (shoves f1 a (path.take k)) a st = put (shoves f1 a (path.take k)) st.i z := by rw [hz]; rfl
            have e2 : (fun j => if j = st.i then fx st.i else fx j) = fx := by
              funext j
              by_cases hj : j = st.i
              · rw [if_pos hj, hj]
              · rw [if_neg hj]
            rw [e1]
            rw [e2] at n5
            exact n5
          cases hu : st.up with
          | true =>
            refine ifT rfl ⟨_, rfl, _, _, rfl, rfl, g.ax st.i, _, n4.arc _ hi, (by show 5 < 1000; decide), ?_⟩
            rw [hu] at fin
            exact fin _ (by rw [if_pos rfl])
          | false =>
            refine ifF rfl ⟨_, rfl, _, _, rfl, rfl, _, _, rfl, rfl, g.ax st.i, _, n4.arc _ hi, (by show 5 < 1000; decide), ?_⟩
            rw [hu] at fin
            exact fin _ (by rw [if_neg (by decide)])
        · rintro σ H4 ⟨s8, s9, s10, rfl, n4, kt4, fr4⟩
          rw [full] at n4
          refine ⟨_, rfl, _, rfl, _, _, rfl, rfl, (most - (t + a)).toNat, by omega, t + a, shoves f1 a path, _, _, _, _, _, _, rfl, rfl, Pu.more ndI W (by omega) (by omega) al, n4, KeepT.trans kt1 (KeepT.trans (KeepT.of e13) kt4), fun c o hc hn => fr4 c o (e13 _ _ (fr1 c o hc hn)) hn⟩
    · intro X H2 C e2
      refine ⟨_, rfl, rfl, _, rfl, ?_⟩
      refine ifT rfl ?_
      exact ⟨_, rfl, q t f1 H2 Pu (.inr ⟨X, C⟩) (n1.ex e2) (KeepT.trans kt1 (KeepT.of e2)) fun a o ha hn => e2 _ _ (fr1 a o ha hn)⟩
  · refine ifF (decide_eq_false hlt) ?_
    have := Pu.hi
    exact ⟨_, rfl, q t f1 H1 Pu (.inl (by omega)) n1 kt1 fr1⟩
end HW
end
section
/-! HWN5: an arc's flow made less; a network made. -/
namespace HW
open PySem PySem.Spec PyProof.Rows L2
local macro_rules | `(tactic| walk_at "ed") => `(tactic| repeat' (first
  | exact ed_int | exact ed_str | exact ed_bl | exact ed_non | exact ea_nil | exact eo_none
  | exact ed_var rfl
  | with_reducible apply ea_cons
  | with_reducible apply ed_op
  | with_reducible apply ed_un
  | with_reducible apply ed_tupT
  | with_reducible apply ed_lstT
  | with_reducible apply et_test
  | with_reducible apply et_B
  | with_reducible apply et_andC
  | with_reducible apply et_orC
  | with_reducible apply et_not
  | with_reducible apply eo_some
  | with_reducible apply ed_callT
  | exact rd_add | exact rd_sub | exact rd_lt | exact rd_le | exact rd_gt | exact rd_ge | exact rd_isN | exact rd_notN | exact ru_neg
  | exact rd_ixT rfl
  | exact rd_ixT (at_rng (by assumption))
  | exact rd_ixT (at_ints (by assumption))
  | exact rd_ixT (at_pred (by assumption))
  | (show List.length _ = _; exact rfl)
  | (show List.length _ ≤ 100000; exact Nat.le_of_ble_eq_true rfl)
  | apply ed_tupT))
local macro_rules | `(tactic| walk_at "gd") => `(tactic| repeat' (first | exact gd_name (by decide) | exact gs_nil | with_reducible apply gs_cons | refine' gd_tup ?_ rfl))
variable {P : Program} {w : World} {K : PySem.W.Frag} {mg : Str → Option Value} {base : Heap} {CA CN CS : Addr}
def spLessen (CA CN : Addr) : Sp := fun vs H Q _ => ∃ (g : NG) (f : AId → Int) (fx : AId → Bool) (i : AId), vs = [.ref g.nw, .ref (g.ad i)] ∧ Bas g.B ∧ i ∈ g.B.ids ∧ NetAt CA CN H g f fx ∧ Feas g.B.net f ∧
  ∀ (f' : AId → Int) (fx' : AId → Bool) (H' : Hp), Feas g.B.net f' → (∀ X, gain g.B.net f' X = gain g.B.net f X) → NetAt CA CN H' g f' fx' → KeepT H H' → (∀ a o, H a = some o → (∀ i ∈ g.B.ids, a ≠ g.ad i) → H' a = some o) → Q .non H'
abbrev s_lessen : Stmt := tp 32
theorem sc_lessen : FnScope ["network", "arc"] ["network", "arc"] (defScope s_lessen) := ⟨rfl, rfl, rfl, by decide +kernel, rfl, by decide +kernel, by decide +kernel⟩
theorem ok_lessen {f : Addr} {fd : FuncData} (F : Fun K "lessen" "lessen" s_lessen f fd) (T : Txt K mg CA CN CS)
    (M_Network_push : MtF P w K mg base CN 4 "push" ["self", "begin", "end", "most"] (spPush CA CN)) : FnOk P w K mg base CX0 5 f fd ["network", "arc"] (spLessen CA CN) := by
  refine F.ok sc_lessen (fun vs H Q E h => ?_) (fun cdv A outer s H vs Q E hr h => ?_)
  · obtain ⟨_, _, _, _, rfl, _⟩ := h; rfl
  refine ⟨_, (pss_cons (ps_fld (pv 1) pe_bl rfl)
 (pss_one (ps_fldaug (pv 1) (pe_mt M_Network_push T.clN (hr.mono (by decide)) (pv 0) (pa_cons (pe_fldK (K := K) rfl (pv 1) rfl) (pa_cons (pe_fldK (K := K) rfl (pv 1) rfl) (pa_cons (pe_fldK (K := K) rfl (pv 1) rfl) pa_nil)))) in_sub))), ?_⟩
  obtain ⟨g, f', fx, i, rfl, hB, hi, n, F0, q⟩ := h
  let N := g.B.net
  have ndI : N.ids.Nodup := net_nodup
  -- arc.is_fixed = True
  refine ⟨_, rfl, g.ad i, CA, g.ax i, _, rfl, n.arc i hi, T.clA, T.a_is_fixed, (by show 5 < 1000; decide), ?_⟩
  rw [arc_putFix]
  obtain ⟨kt1, n1⟩ := n.write hi (f' i) true
  have e0 : put f' i (f' i) = f' := by
    funext j
    unfold put
    by_cases h : j = i
    · rw [if_pos h, h]
    · rw [if_neg h]
  rw [e0] at n1
  have a1 := n1.arc i hi
  have f0 := (F0 i hi).1
  -- arc.flow -= network.push(arc.tail, arc.head, arc.flow)
  refine ⟨_, rfl, g.ad i, CA, g.ax i, _, _, rfl, a1, T.clA, T.a_flow, arc_flow, _, rfl, g.nw, g.nx, _, rfl, n1.net, net_no (by decide +kernel) (by decide +kernel) (by decide +kernel) (by decide +kernel),
    _, rfl, g.ad i, CA, g.ax i, _, _, rfl, a1, T.clA, T.a_tail, arc_tail, _, rfl, g.ad i, CA, g.ax i, _, _, rfl, a1, T.clA, T.a_head, arc_head, _, rfl, g.ad i, CA, g.ax i, _, _, rfl, a1, T.clA, T.a_flow, arc_flow,
    g, f', _, N.tl i, N.hd i, g.tv i, g.hv i, f' i, rfl, hB, n1, n1.tl i hi, n1.hd i hi, F0, f0, fun t f1 H2 Pu _ n2 kt2 fr2 => ?_⟩
  have hfix : f1 i = f' i := Pu.fixed i (if_pos rfl)
  refine ⟨_, _, rfl, rfl, g.ax i, _, n2.arc i hi, (by show 5 < 1000; decide), ?_⟩
  rw [arc_putFlow]
  obtain ⟨kt3, n3⟩ := n2.write hi (f' i - t) (if i = i then true else fx i)
  refine q _ _ _ ?_ (fun X => ?_) n3 (KeepT.trans (KeepT.trans kt1 kt2) kt3) fun a o ha hn => ?_
  · intro j hj
    unfold put
    by_cases h : j = i
    · rw [if_pos h]
      subst h
      have h1 := Pu.hi
      have h2 := Pu.lo
      refine ⟨by omega, fun c hc => ?_⟩
      have := (F0 j hj).2 c hc
      omega
    · rw [if_neg h]
      exact Pu.feas j hj
  · rw [gain_put ndI hi, Pu.gain X, hfix]
    by_cases h1 : X (N.hd i) = true <;> by_cases h2 : X (N.tl i) = true <;> simp only [h1, h2, if_true, if_false, Bool.false_eq_true] <;> omega
  · rw [upd_ne (hn i hi)]
    refine fr2 a o ?_ hn
    rw [upd_ne (hn i hi)]
    exact ha
/-! making a network -/
structure NetPre (CA CN : Addr) (H : Hp) (g : NG) (L : List AId) (Ls Lr : List (Nat × Nat)) : Prop where
  net : H g.nw = some (.ins CN g.nx (netF g.vb g.ds g.dr g.la))
  bas : Dq H (basinD g.B) g.vb
  lst : H g.la = some (.lst (L.map fun i => .ref (g.ad i)))
  inj : ∀ i ∈ L, ∀ j ∈ L, g.ad i = g.ad j → i = j
  no : ∀ i ∈ L, g.ad i ≠ g.nw
  arc : ∀ i ∈ L, H (g.ad i) = some (.ins CA (g.ax i) (arcF (g.tv i) (g.hv i) (optV (g.B.net.most i)) 0 false))
  tl : ∀ i ∈ L, Dq H (nodeD (g.B.net.tl i)) (g.tv i)
  hd : ∀ i ∈ L, Dq H (nodeD (g.B.net.hd i)) (g.hv i)
  sto : H g.ds = some (.dT (Ls.map fun c => (keyC c, .ref (g.ad (.sto c.1 c.2)))))
  rel : H g.dr = some (.dT (Lr.map fun c => (keyC c, .ref (g.ad (.rel c.1 c.2)))))
  sL : ∀ c ∈ Ls, AId.sto c.1 c.2 ∈ L
  rL : ∀ c ∈ Lr, AId.rel c.1 c.2 ∈ L
  la_ : g.la ≠ g.nw
def NG.more (g : NG) (i : AId) (a ax : Addr) (t h : V) : NG := { g with
  ad := fun j => if j = i then a else g.ad j
  ax := fun j => if j = i then ax else g.ax j
  tv := fun j => if j = i then t else g.tv j
  hv := fun j => if j = i then h else g.hv j }
/-- one arc more, as add leaves it -/
theorem NetPre.more {H H' : Hp} {g : NG} {L : List AId} {Ls Lr : List (Nat × Nat)} (n : NetPre CA CN H g L Ls Lr) {i : AId} (hi : ¬ i ∈ L) {a ax : Addr} {t h : V} (na : H a = none) (ha : H' a = some (.ins CA ax (arcF t h (optV (g.B.net.most i)) 0 false)))
    (hl : H' g.la = some (.lst (L.map (fun i => V.ref (g.ad i)) ++ [.ref a]))) (fr : ∀ b o, H b = some o → b ≠ g.la → H' b = some o) (ht : Dq H (nodeD (g.B.net.tl i)) t) (hh : Dq H (nodeD (g.B.net.hd i)) h) : NetPre CA CN H' (g.more i a ax t h) (L ++ [i]) Ls Lr := by
  have kt : KeepT H H' := fun b xs hb => fr b _ hb fun z => by subst z; rw [n.lst] at hb; cases hb
  have old : ∀ j ∈ L, j ≠ i := fun j hj z => hi (z ▸ hj)
  have adO : ∀ j ∈ L, (g.more i a ax t h).ad j = g.ad j := fun j hj => if_neg (old j hj)
  have adI : (g.more i a ax t h).ad i = a := if_pos rfl
  have neA : ∀ j ∈ L, g.ad j ≠ a := fun j hj z => by have := n.arc j hj; rw [z, na] at this; cases this
  have neL : ∀ j ∈ L, g.ad j ≠ g.la := fun j hj z => by have := n.arc j hj; rw [z, n.lst] at this; cases this
  refine ⟨fr _ _ n.net n.la_.symm, Dq.keepT kt (imm_basin _) n.bas, ?_, fun j hj k hk e => ?_, fun j hj => ?_, fun j hj => ?_, fun j hj => ?_, fun j hj => ?_, ?_, ?_, fun c hc => List.mem_append_left _ (n.sL c hc), fun c hc => List.mem_append_left _ (n.rL c hc), n.la_⟩
  · show H' g.la = _
    rw [hl, List.map_append]
    congr 2
    congr 1
    · exact List.map_congr_left fun j hj => by rw [adO j hj]
    · show [V.ref a] = [V.ref ((g.more i a ax t h).ad i)]
      rw [adI]
  · rcases List.mem_append.mp hj with hj | hj
    · rcases List.mem_append.mp hk with hk | hk
      · rw [adO j hj, adO k hk] at e
        exact n.inj j hj k hk e
      · rw [List.mem_singleton.mp hk, adO j hj, adI] at e
        exact absurd e (neA j hj)
    · rcases List.mem_append.mp hk with hk | hk
      · rw [List.mem_singleton.mp hj, adI, adO k hk] at e
        exact absurd e.symm (neA k hk)
      · rw [List.mem_singleton.mp hj, List.mem_singleton.mp hk]
  · rcases List.mem_append.mp hj with hj | hj
    · rw [adO j hj]
      exact n.no j hj
    · rw [List.mem_singleton.mp hj, adI]
      intro z
      have h1 := n.net
      rw [show g.nw = a from z.symm, na] at h1
      cases h1
  · rcases List.mem_append.mp hj with hj | hj
    · rw [adO j hj]
      show H' _ = some (.ins CA (if j = i then ax else g.ax j) (arcF (if j = i then t else g.tv j) (if j = i then h else g.hv j) _ 0 false))
      rw [if_neg (old j hj), if_neg (old j hj), if_neg (old j hj)]
      exact fr _ _ (n.arc j hj) (neL j hj)
    · rw [List.mem_singleton.mp hj, adI]
      show H' _ = some (.ins CA (if i = i then ax else g.ax i) (arcF (if i = i then t else g.tv i) (if i = i then h else g.hv i) _ 0 false))
      rw [if_pos rfl, if_pos rfl, if_pos rfl]
      exact ha
  · show Dq H' _ (if j = i then t else g.tv j)
    rcases List.mem_append.mp hj with hj | hj
    · rw [if_neg (old j hj)]
      exact node_keep kt (n.tl j hj)
    · rw [List.mem_singleton.mp hj, if_pos rfl]
      exact node_keep kt ht
  · show Dq H' _ (if j = i then h else g.hv j)
    rcases List.mem_append.mp hj with hj | hj
    · rw [if_neg (old j hj)]
      exact node_keep kt (n.hd j hj)
    · rw [List.mem_singleton.mp hj, if_pos rfl]
      exact node_keep kt hh
  · show H' g.ds = _
    rw [fr _ _ n.sto fun z => by have := n.sto; rw [z, n.lst] at this; cases this]
    congr 2
    exact List.map_congr_left fun c hc => by rw [adO _ (n.sL c hc)]
  · show H' g.dr = _
    rw [fr _ _ n.rel fun z => by have := n.rel; rw [z, n.lst] at this; cases this]
    congr 2
    exact List.map_congr_left fun c hc => by rw [adO _ (n.rL c hc)]
/-- the entries of the dicts -/
theorem NetPre.addSto {H : Hp} {g : NG} {L : List AId} {Ls Lr : List (Nat × Nat)} (n : NetPre CA CN H g L Ls Lr) {c : Nat × Nat} (hc : AId.sto c.1 c.2 ∈ L) (hne : g.ds ≠ g.dr) : NetPre CA CN (upd H g.ds (.dT (Ls.map (fun c => (keyC c, V.ref (g.ad (.sto c.1 c.2)))) ++ [(keyC c, .ref (g.ad (.sto c.1 c.2)))]))) g L (Ls ++ [c]) Lr := by
  have kt : KeepT H (upd H g.ds (.dT (Ls.map (fun c => (keyC c, V.ref (g.ad (.sto c.1 c.2)))) ++ [(keyC c, .ref (g.ad (.sto c.1 c.2)))]))) := fun b xs hb => by
    rw [upd_ne (fun z => by subst z; rw [n.sto] at hb; cases hb)]
    exact hb
  have ne : ∀ {a : Addr} {o : HO}, H a = some o → (∀ k, o ≠ .dT k) → upd H g.ds (.dT (Ls.map (fun c => (keyC c, V.ref (g.ad (.sto c.1 c.2)))) ++ [(keyC c, .ref (g.ad (.sto c.1 c.2)))])) a = some o := fun h no => by
    rw [upd_ne (fun z => by subst z; rw [n.sto] at h; cases h; exact no _ rfl)]
    exact h
  refine ⟨ne n.net (fun k z => nomatch z), Dq.keepT kt (imm_basin _) n.bas, ne n.lst (fun k z => nomatch z), n.inj, n.no, fun i hi => ne (n.arc i hi) (fun k z => nomatch z), fun i hi => node_keep kt (n.tl i hi), fun i hi => node_keep kt (n.hd i hi), ?_, ?_, fun d hd => ?_, n.rL, n.la_⟩
  · rw [upd_same, List.map_append]
    rfl
  · rw [upd_ne hne.symm]
    exact n.rel
  · rcases List.mem_append.mp hd with hd | hd
    · exact n.sL d hd
    · rw [List.mem_singleton.mp hd]
      exact hc
theorem NetPre.addRel {H : Hp} {g : NG} {L : List AId} {Ls Lr : List (Nat × Nat)} (n : NetPre CA CN H g L Ls Lr) {c : Nat × Nat} (hc : AId.rel c.1 c.2 ∈ L) (hne : g.ds ≠ g.dr) : NetPre CA CN (upd H g.dr (.dT (Lr.map (fun c => (keyC c, V.ref (g.ad (.rel c.1 c.2)))) ++ [(keyC c, .ref (g.ad (.rel c.1 c.2)))]))) g L Ls (Lr ++ [c]) := by
  have kt : KeepT H (upd H g.dr (.dT (Lr.map (fun c => (keyC c, V.ref (g.ad (.rel c.1 c.2)))) ++ [(keyC c, .ref (g.ad (.rel c.1 c.2)))]))) := fun b xs hb => by
    rw [upd_ne (fun z => by subst z; rw [n.rel] at hb; cases hb)]
    exact hb
  have ne : ∀ {a : Addr} {o : HO}, H a = some o → (∀ k, o ≠ .dT k) → upd H g.dr (.dT (Lr.map (fun c => (keyC c, V.ref (g.ad (.rel c.1 c.2)))) ++ [(keyC c, .ref (g.ad (.rel c.1 c.2)))])) a = some o := fun h no => by
    rw [upd_ne (fun z => by subst z; rw [n.rel] at h; cases h; exact no _ rfl)]
    exact h
  refine ⟨ne n.net (fun k z => nomatch z), Dq.keepT kt (imm_basin _) n.bas, ne n.lst (fun k z => nomatch z), n.inj, n.no, fun i hi => ne (n.arc i hi) (fun k z => nomatch z), fun i hi => node_keep kt (n.tl i hi), fun i hi => node_keep kt (n.hd i hi), ?_, ?_, n.sL, fun d hd => ?_, n.la_⟩
  · rw [upd_ne hne]
    exact n.sto
  · rw [upd_same, List.map_append]
    rfl
  · rcases List.mem_append.mp hd with hd | hd
    · exact n.rL d hd
    · rw [List.mem_singleton.mp hd]
      exact hc
theorem keyC_inj {a b : Nat × Nat} (h : keyC a = keyC b) : a = b := by
  have z1 : (a.1 : Int) = b.1 := by injection h with a b; injection a
  have z2 : (a.2 : Int) = b.2 := by injection h with a b; injection b with a b; injection a
  exact Prod.ext (by omega) (by omega)
theorem valV_no {L : List (Nat × Nat)} {v : Nat × Nat → V} {c : Nat × Nat} (h : ¬ c ∈ L) : valV (L.map fun c => (keyC c, v c)) (keyC c) = none := by
  induction L with
  | nil => rfl
  | cons a L ih =>
    rw [List.map_cons, valV_neg (fun z => h (by rw [← keyC_inj z]; exact List.mem_cons_self))]
    exact ih fun z => h (List.mem_cons_of_mem _ z)
theorem valV_yes {L : List (Nat × Nat)} {v : Nat × Nat → V} {c : Nat × Nat} (h : c ∈ L) : valV (L.map fun c => (keyC c, v c)) (keyC c) = some (v c) := by
  induction L with
  | nil => cases h
  | cons a L ih =>
    rw [List.map_cons]
    by_cases e : a = c
    · subst e
      rw [valV_pos rfl]
    · rw [valV_neg (fun z => e (keyC_inj z))]
      exact ih (by rcases List.mem_cons.mp h with h | h; exact absurd h.symm e; exact h)
theorem ed_at {σ : Slots} {ρ : Rho} {H : Hp} {te : TE} {d : PyData} (env : EnvOk H H H σ ρ) (h : Ed H H te ρ d) (Q : VK) (q : ∀ v H', Ex H H' → Dq H' d v → Q v H') : te σ H Q :=
  h H H σ ⟨.refl .rfl', env⟩ Q fun v H0' H' l hv => q v H' l.t (hv.mono l.w)
theorem ea_at {σ : Slots} {ρ : Rho} {H : Hp} {ta : TA} {ds : List PyData} (env : EnvOk H H H σ ρ) (h : EdA H H ta ρ ds) (Q : List V → Hp → Prop) (q : ∀ vs H', Ex H H' → DqAll H' ds vs → Q vs H') : ta σ H Q :=
  h H H σ ⟨.refl .rfl', env⟩ Q fun v H0' H' l hv => q v H' l.t (hv.mono l.w)
theorem three {H : Hp} {a b c : PyData} {vs : List V} (h : DqAll H [a, b, c] vs) : ∃ x y z, vs = [x, y, z] ∧ Dq H a x ∧ Dq H b y ∧ Dq H c z := by
  match vs, h with
  | [x, y, z], h => exact ⟨x, y, z, rfl, h.1, h.2.1, h.2.2.1⟩
theorem asg_at {σ : Slots} {ρ : Rho} {H : Hp} {te : TE} {d : PyData} {i : Nat} {u : TS} {D : Ends} (env : EnvOk H H H σ ρ) (h : Ed H H te ρ d) (q : ∀ v H', Ex H H' → Dq H' d v → u D (σ.set i (some v)) H') : tSeq (tAsg te (gName i)) u D σ H :=
  ed_at env h _ fun v H' e hv => q v H' e hv
theorem et_at {σ : Slots} {ρ : Rho} {H : Hp} {tt : TT} {b : Bool} (env : EnvOk H H H σ ρ) (h : EdT H H tt ρ b) (Q : Bool → Hp → Prop) (q : ∀ H', Ex H H' → Q b H') : tt σ H Q :=
  h H H σ ⟨.refl .rfl', env⟩ Q fun H0' H' l => q H' l.t
theorem NetPre.ex {H H' : Hp} {g : NG} {L : List AId} {Ls Lr : List (Nat × Nat)} (n : NetPre CA CN H g L Ls Lr) (e : Ex H H') : NetPre CA CN H' g L Ls Lr :=
  ⟨e _ _ n.net, n.bas.mono e, e _ _ n.lst, n.inj, n.no, fun i hi => e _ _ (n.arc i hi), fun i hi => (n.tl i hi).mono e, fun i hi => (n.hd i hi).mono e, e _ _ n.sto, e _ _ n.rel, n.sL, n.rL, n.la_⟩
/-- what stands while a network is made: H the heap at the start, H5 when the cells were listed at lc -/
structure Making (CA CN : Addr) (H H5 : Hp) (lc : Addr) (xs : List V) (B : Basin) (x dx : Addr) (vb : V) (ds dr la : Addr) (L : List AId) (Ls Lr : List (Nat × Nat)) (ad : AId → Addr) (H' : Hp) : Prop where
  pre : ∃ ax tv hv, NetPre CA CN H' ⟨B, ad, ax, tv, hv, x, dx, vb, ds, dr, la⟩ L Ls Lr
  kt : KeepT H5 H'
  ls : H' lc = some (.lst xs)
  fr : ∀ b o, H b = some o → b ≠ x → H' b = some o
  new : ∀ i ∈ L, H (ad i) = none
section
variable {H H5 : Hp} {lc : Addr} {xs : List V} {B : Basin} {x dx : Addr} {vb : V} {ds dr la : Addr} {L : List AId} {Ls Lr : List (Nat × Nat)} {ad : AId → Addr} {H1 : Hp}
theorem Making.ex {H2 : Hp} (M : Making CA CN H H5 lc xs B x dx vb ds dr la L Ls Lr ad H1) (e : Ex H1 H2) : Making CA CN H H5 lc xs B x dx vb ds dr la L Ls Lr ad H2 := by
  obtain ⟨⟨ax, tv, hv, n⟩, kt, ls, fr, new⟩ := M
  exact ⟨⟨ax, tv, hv, n.ex e⟩, KeepT.trans kt (KeepT.of e), e _ _ ls, fun b o hb hne => e _ _ (fr b o hb hne), new⟩
/-- self.add(tail, head, most) -/
theorem Making.add (M : Making CA CN H H5 lc xs B x dx vb ds dr la L Ls Lr ad H1) (hlc : lc ≠ la) (hla : H la = none) {i : AId} (hi : ¬ i ∈ L) (hz : L.length < 1000) {t h m : V} (hm : m = optV (B.net.most i)) (ht : Dq H1 (nodeD (B.net.tl i)) t) (hh : Dq H1 (nodeD (B.net.hd i)) h) {Q : VK} {E : XK}
    (q : ∀ a H2, Making CA CN H H5 lc xs B x dx vb ds dr la (L ++ [i]) Ls Lr (fun j => if j = i then a else ad j) H2 → KeepT H1 H2 → Q (.ref a) H2) : spAdd CA CN [.ref x, t, h, m] H1 Q E := by
  obtain ⟨⟨ax, tv, hv, n⟩, kt, ls, fr, new⟩ := M
  subst hm
  refine ⟨x, dx, la, _, t, h, _, _, rfl, n.net, net_arcs, n.lst, by rw [List.length_map]; exact hz, fun a ax' H2 na ha hl fr2 => q a H2 ⟨⟨_, _, _, n.more hi na ha hl fr2 ht hh⟩, ?_, fr2 _ _ ls hlc, ?_, ?_⟩ ?_⟩
  · intro b ys hb
    exact fr2 _ _ (kt _ _ hb) fun z => by subst z; have h1 := kt _ _ hb; rw [n.lst] at h1; cases h1
  · intro b o hb hne
    exact fr2 _ _ (fr b o hb hne) (ne_of_none hb hla)
  · intro j hj
    by_cases e : j = i
    · rw [if_pos e]
      cases hHa : H a with
      | none => rfl
      | some o =>
        have hne : a ≠ x := fun z => by subst z; rw [n.net] at na; cases na
        rw [fr a o hHa hne] at na
        cases na
    · rw [if_neg e]
      rcases List.mem_append.mp hj with hj | hj
      · exact new j hj
      · exact absurd (List.mem_singleton.mp hj) e
  · intro b ys hb
    exact fr2 _ _ hb fun z => by subst z; rw [n.lst] at hb; cases hb
theorem putK_map {v : Nat × Nat → V} {c : Nat × Nat} {z : V} (h : ¬ c ∈ Ls) : putK (Ls.map fun c => (keyC c, v c)) (keyC c) z = Ls.map (fun c => (keyC c, v c)) ++ [(keyC c, z)] := putK_new z (valV_no h)
theorem Making.sto (M : Making CA CN H H5 lc xs B x dx vb ds dr la L Ls Lr ad H1) (hds : H ds = none) (hne : ds ≠ dr) {c : Nat × Nat} (hc : AId.sto c.1 c.2 ∈ L) :
    Making CA CN H H5 lc xs B x dx vb ds dr la L (Ls ++ [c]) Lr ad (upd H1 ds (.dT (Ls.map (fun c => (keyC c, V.ref (ad (.sto c.1 c.2)))) ++ [(keyC c, .ref (ad (.sto c.1 c.2)))]))) := by
  obtain ⟨⟨ax, tv, hv, n⟩, kt, ls, fr, new⟩ := M
  have hs := n.sto
  refine ⟨⟨ax, tv, hv, n.addSto hc hne⟩, fun b ys hb => ?_, ?_, fun b o hb hn => ?_, new⟩
  · rw [upd_ne (fun z => by subst z; have h1 := kt _ _ hb; rw [hs] at h1; cases h1)]
    exact kt _ _ hb
  · rw [upd_ne (fun z => by subst z; rw [hs] at ls; cases ls)]
    exact ls
  · rw [upd_ne (ne_of_none hb hds)]
    exact fr b o hb hn
theorem Making.rel (M : Making CA CN H H5 lc xs B x dx vb ds dr la L Ls Lr ad H1) (hdr : H dr = none) (hne : ds ≠ dr) {c : Nat × Nat} (hc : AId.rel c.1 c.2 ∈ L) :
    Making CA CN H H5 lc xs B x dx vb ds dr la L Ls (Lr ++ [c]) ad (upd H1 dr (.dT (Lr.map (fun c => (keyC c, V.ref (ad (.rel c.1 c.2)))) ++ [(keyC c, .ref (ad (.rel c.1 c.2)))]))) := by
  obtain ⟨⟨ax, tv, hv, n⟩, kt, ls, fr, new⟩ := M
  have hs := n.rel
  refine ⟨⟨ax, tv, hv, n.addRel hc hne⟩, fun b ys hb => ?_, ?_, fun b o hb hn => ?_, new⟩
  · rw [upd_ne (fun z => by subst z; have h1 := kt _ _ hb; rw [hs] at h1; cases h1)]
    exact kt _ _ hb
  · rw [upd_ne (fun z => by subst z; rw [hs] at ls; cases ls)]
    exact ls
  · rw [upd_ne (ne_of_none hb hdr)]
    exact fr b o hb hn
end
theorem Making.net {H H5 : Hp} {lc : Addr} {xs : List V} {B : Basin} {x dx : Addr} {vb : V} {ds dr la : Addr} {L : List AId} {Ls Lr : List (Nat × Nat)} {ad : AId → Addr} {H1 : Hp} (M : Making CA CN H H5 lc xs B x dx vb ds dr la L Ls Lr ad H1) :
    H1 x = some (.ins CN dx (netF vb ds dr la)) ∧ Dq H1 (basinD B) vb ∧ H1 ds = some (.dT (Ls.map fun c => (keyC c, .ref (ad (.sto c.1 c.2))))) ∧ H1 dr = some (.dT (Lr.map fun c => (keyC c, .ref (ad (.rel c.1 c.2))))) := by
  obtain ⟨⟨ax, tv, hv, n⟩, kt, ls, fr, new⟩ := M
  exact ⟨n.net, n.bas, n.sto, n.rel⟩
theorem snoc_no {α : Type} {L : List α} {i : α} (h : (L ++ [i]).Nodup) : ¬ i ∈ L := fun z => (List.nodup_append.mp h).2.2 i z i (List.mem_singleton.mpr rfl) rfl
def stoI (B : Basin) (c : Nat × Nat) : List AId := if c.2 + 1 < B.M then [AId.sto c.1 c.2] else []
def relI (B : Basin) (c : Nat × Nat) : List AId := if (B.letTo c.1 c.2).isSome = true then [AId.rel c.1 c.2] else []
def idsTo (B : Basin) (k : Nat) : List AId := (B.cells.take k).flatMap fun c => AId.src c.1 c.2 :: (stoI B c ++ relI B c)
theorem idsTo_succ {B : Basin} {k : Nat} {c : Nat × Nat} (h : B.cells[k]? = some c) : idsTo B (k + 1) = (idsTo B k ++ [AId.src c.1 c.2]) ++ stoI B c ++ relI B c := by
  unfold idsTo
  rw [List.take_succ, h]
  show (B.cells.take k ++ [c]).flatMap _ = _
  rw [List.flatMap_append]
  simp
theorem idsTo_all (B : Basin) : idsTo B B.cells.length = B.ids := by
  unfold idsTo
  rw [List.take_length]
  rfl
theorem idsTo_nodup (B : Basin) (k : Nat) : (idsTo B k).Nodup := by
  have h1 : (B.cells.take k ++ B.cells.drop k) = B.cells := List.take_append_drop k B.cells
  have h2 : B.ids = idsTo B k ++ ((B.cells.drop k).flatMap fun c => AId.src c.1 c.2 :: (stoI B c ++ relI B c)) := by
    unfold idsTo
    rw [← List.flatMap_append, h1]
    rfl
  have h3 := ids_nodup' (B := B)
  rw [h2] at h3
  exact (List.nodup_append.mp h3).1
def spNetI (CA CN : Addr) : Sp := fun vs H Q _ => ∃ (x dx : Addr) (B : Basin) (vb : V), vs = [.ref x, vb] ∧ H x = some (.ins CN dx []) ∧ Bas B ∧ Dq H (basinD B) vb ∧
  ∀ (g : NG) (H' : Hp), g.B = B → g.nw = x → NetAt CA CN H' g (fun _ => 0) (fun _ => false) → (∀ i ∈ B.ids, H (g.ad i) = none) → (∀ b o, H b = some o → b ≠ x → H' b = some o) → Q .non H'
abbrev s_Network___init__ : Stmt := inClass (tp 27) 0
theorem sc_Network___init__ : FnScope ["self", "basin", "cell", "number", "month", "site"] ["self", "basin"] (defScope s_Network___init__) := ⟨rfl, rfl, rfl, by decide +kernel, rfl, by decide +kernel, by decide +kernel⟩
theorem ok_Network___init__ {f : Addr} {fd : FuncData} (F : Fun K "__init__" "Network.__init__" s_Network___init__ f fd) (T : Txt K mg CA CN CS)
    (G_cell_supply : FnF P w K mg base 1 "cell_supply" ["basin", "cell"] (spD 2 d_cell_supply))
    (G_cells : FnF P w K mg base 1 "cells" ["basin"] (spD 1 d_cells))
    (G_let_to : FnF P w K mg base 2 "let_to" ["basin", "cell"] (spD 2 d_let_to))
    (M_Network_add : MtF P w K mg base CN 3 "add" ["self", "tail", "head", "most"] (spAdd CA CN)) : FnOk P w K mg base CX0 4 f fd ["self", "basin"] (spNetI CA CN) := by
  refine F.ok sc_Network___init__ (fun vs H Q E h => ?_) (fun cdv A outer s H vs Q E hr h => ?_)
  · obtain ⟨_, _, _, _, rfl, _⟩ := h; rfl
  refine ⟨_, (pss_cons (ps_fld (pv 0) (pv 1) rfl)
 (pss_cons (ps_fld (pv 0) pe_dnewT rfl)
 (pss_cons (ps_fld (pv 0) pe_dnewT rfl)
 (pss_cons (ps_fld (pv 0) (pe_lst pa_nil) rfl)
 (pss_one (ps_for PassesOwn.never rfl (pi_listK (K := K) rfl (pe_fn G_cells (hr.mono (by decide)) rfl (pa_cons (pv 1) pa_nil))) (pg_name (i := 2) sc_Network___init__.nd rfl (Or.inl rfl))
  (pss_cons (ps_asg (pv 2) (pg_tupK (n := 2) (K := K) rfl rfl (pgs_cons (pg_name (i := 3) sc_Network___init__.nd rfl (Or.inl rfl)) (pgs_cons (pg_name (i := 4) sc_Network___init__.nd rfl (Or.inl rfl)) pgs_nil))))
 (pss_cons (ps_set (i := 5) sc_Network___init__.nd rfl (Or.inl rfl) (pe_ix (ix_tupK (K := K) rfl) (pe_ix (ix_tupK (K := K) rfl) (pv 1) pe_int (fun _ _ => rfl)) (pv 3) (fun _ _ => rfl)))
 (pss_cons (ps_expr (pe_mt M_Network_add T.clN (hr.mono (by decide)) (pv 0) (pa_cons (pe_gl T.SOURCE rfl) (pa_cons (pv 2) (pa_cons (pe_fn G_cell_supply (hr.mono (by decide)) rfl (pa_cons (pv 1) (pa_cons (pv 2) pa_nil))) pa_nil)))))
 (Evl.pss_cut (ps_if (pt_cmpR op_lt (pe_op op_add (pv 4) pe_int) (pe_ix (ix_tupK (K := K) rfl) (pv 1) pe_int (fun _ _ => rfl)) (nomark _))
  (pss_one (ps_dput (hu_of hr) (pe_fldK (K := K) rfl (pv 0) rfl) (pv 2) (pe_mt M_Network_add T.clN (hr.mono (by decide)) (pv 0) (pa_cons (pv 2) (pa_cons (pe_tup (pa_cons (pv 3) (pa_cons (pe_op op_add (pv 4) pe_int) pa_nil))) (pa_cons (pe_ix (ix_tupK (K := K) rfl) (pv 5) (pe_gl T.ROOM rfl) (fun _ _ => rfl)) pa_nil)))) rfl))
  pss_nil)
 (pss_one (ps_if (pt_cmpR op_notN (pe_fn G_let_to (hr.mono (by decide)) rfl (pa_cons (pv 1) (pa_cons (pv 2) pa_nil))) pe_non (nomark _))
  (pss_one (ps_dput (hu_of hr) (pe_fldK (K := K) rfl (pv 0) rfl) (pv 2) (pe_mt M_Network_add T.clN (hr.mono (by decide)) (pv 0) (pa_cons (pv 2) (pa_cons (pe_fn G_let_to (hr.mono (by decide)) rfl (pa_cons (pv 1) (pa_cons (pv 2) pa_nil))) (pa_cons (pe_ix (ix_tupK (K := K) rfl) (pv 5) (pe_gl T.REACH rfl) (fun _ _ => rfl)) pa_nil)))) rfl))
  pss_nil)))))))))))), ?_⟩
  obtain ⟨x, dx, B, vb, rfl, hx, hB, hb, q⟩ := h
  -- self.basin = basin
  refine ⟨_, rfl, _, rfl, x, CN, dx, [], rfl, hx, T.clN, T.n_basin, (by show 0 < 1000; decide), ?_⟩
  -- self.storages = {}
  intro ds hds
  have xds : x ≠ ds := ne_of_none upd_same hds
  refine ⟨_, rfl, x, CN, dx, _, rfl, (by rw [upd_ne xds]; exact upd_same), T.clN, T.n_storages, (by show 1 < 1000; decide), ?_⟩
  -- self.releases = {}
  intro dr hdr
  have xdr : x ≠ dr := ne_of_none upd_same hdr
  have dsr : ds ≠ dr := by
    refine ne_of_none (o := .dT []) ?_ hdr
    rw [upd_ne xds.symm, upd_same]
  refine ⟨_, rfl, x, CN, dx, _, rfl, (by rw [upd_ne xdr]; exact upd_same), T.clN, T.n_releases, (by show 2 < 1000; decide), ?_⟩
  -- self.arcs = []
  refine ⟨by decide, fun la hla => ?_⟩
  have xla : x ≠ la := ne_of_none upd_same hla
  have e1 : putF "releases" (.ref dr) (putF "storages" (.ref ds) (putF "basin" vb [])) = ([("basin", vb), ("storages", .ref ds), ("releases", .ref dr)] : List (Str × V)) := by
    rw [pf_nil, pf_ne (by decide +kernel), pf_nil, pf_ne (by decide +kernel), pf_ne (by decide +kernel), pf_nil]
  refine ⟨_, rfl, x, CN, dx, _, rfl, (by rw [upd_ne xla]; exact upd_same), T.clN, T.n_arcs, (by rw [e1]; show 3 < 1000; decide), ?_⟩
  rw [e1]
  have e2 : putF "arcs" (.ref la) ([("basin", vb), ("storages", .ref ds), ("releases", .ref dr)] : List (Str × V)) = netF vb ds dr la := by
    rw [pf_ne (by decide +kernel), pf_ne (by decide +kernel), pf_ne (by decide +kernel), pf_nil]
    rfl
  rw [e2]
  generalize hH4 : upd (upd (upd (upd (upd (upd (upd H x _) ds _) x _) dr _) x _) la _) x _ = H4
  have dsx : ds ≠ la := by
    refine ne_of_none (o := .dT []) ?_ hla
    rw [upd_ne xds.symm, upd_ne dsr, upd_ne xds.symm, upd_same]
  have drx : dr ≠ la := by
    refine ne_of_none (o := .dT []) ?_ hla
    rw [upd_ne xdr.symm, upd_same]
  have h4x : H4 x = some (.ins CN dx (netF vb ds dr la)) := by rw [← hH4]; exact upd_same
  have h4l : H4 la = some (.lst []) := by rw [← hH4, upd_ne xla.symm, upd_same]
  have h4r : H4 dr = some (.dT []) := by rw [← hH4, upd_ne xdr.symm, upd_ne drx, upd_ne xdr.symm, upd_same]
  have h4s : H4 ds = some (.dT []) := by rw [← hH4, upd_ne xds.symm, upd_ne dsx, upd_ne xds.symm, upd_ne dsr, upd_ne xds.symm, upd_same]
  have nds : H ds = none := by
    rw [upd_ne xds.symm] at hds
    exact hds
  have ndr : H dr = none := by
    rw [upd_ne xdr.symm, upd_ne dsr.symm, upd_ne xdr.symm] at hdr
    exact hdr
  have nla : H la = none := by
    rw [upd_ne xla.symm, upd_ne drx.symm, upd_ne xla.symm, upd_ne dsx.symm, upd_ne xla.symm] at hla
    exact hla
  have k4 : ∀ b o, H b = some o → b ≠ x → H4 b = some o := fun b o hb' hne => by
    rw [← hH4, upd_ne hne, upd_ne (ne_of_none hb' nla), upd_ne hne, upd_ne (ne_of_none hb' ndr), upd_ne hne, upd_ne (ne_of_none hb' nds), upd_ne hne]
    exact hb'
  have h0 : Ex (cut H x) H4 := fun b o hb' => by
    have hne : b ≠ x := fun z => by subst z; rw [cut_at] at hb'; cases hb'
    rw [cut_ne hne] at hb'
    exact k4 b o hb' hne
  have hb0 : Dq (cut H x) (basinD B) vb := Dq.keepT (fun b xs hb' => cut_some hb' fun z => by subst z; rw [hx] at hb'; cases hb') (imm_basin B) hb
  have hbK : ∀ {H' : Hp}, KeepT H4 H' → Dq H' (basinD B) vb := fun k => Dq.keepT k (imm_basin B) (hb0.mono h0)
  -- for cell in cells(basin)
  refine ⟨_, rfl, cut H x, [basinD B], _, h0, ⟨hb0, trivial⟩, rfl, ⟨B, hB, rfl, rfl⟩, fun v H0' H5 l5 hv => ?_⟩
  obtain ⟨lc, xs, rfl, hlc0, hxs⟩ := hv
  have hlc : H5 lc = some (.lst xs) := l5.w _ _ hlc0
  have lcl : lc ≠ la := fun z => by
    subst z
    rw [l5.n _ _ h4l (by rw [cut_ne xla.symm]; exact nla)] at hlc0
    cases hlc0
  refine ⟨lc, rfl, ⟨xs, SqL.of hlc⟩, ?_⟩
  have hlen : ∀ k, (idsTo B k).length ≤ 48 := fun k => by
    refine Nat.le_trans ?_ (ids_len hB)
    refine (idsTo_nodup B k).length_le_of_subset ?_
    intro i hi
    have : B.ids = idsTo B B.cells.length := (idsTo_all B).symm
    rw [this]
    obtain ⟨c, hc, hi⟩ := List.mem_flatMap.mp hi
    refine List.mem_flatMap.mpr ⟨c, ?_, hi⟩
    rw [List.take_length]
    exact List.mem_of_mem_take hc
  let MK := Making CA CN H H5 lc xs B x dx vb ds dr la
  let sP : Nat × Nat → Bool := fun c => decide (c.2 + 1 < B.M)
  let rP : Nat × Nat → Bool := fun c => (B.letTo c.1 c.2).isSome
  have hM := hB.M
  refine for_list (xs := xs) (fun k σ H' => ∃ (ad : AId → Addr) (s2 s3 s4 s5 : Option V), σ = [some (.ref x), some vb, s2, s3, s4, s5] ∧ MK (idsTo B k) ((B.cells.take k).filter sP) ((B.cells.take k).filter rP) ad H')
    ⟨fun _ => 0, none, none, none, none, rfl, ⟨⟨fun _ => 0, fun _ => .non, fun _ => .non, ⟨l5.t _ _ h4x, (hbK fun _ _ z => z).mono l5.t, l5.t _ _ h4l, fun i hi => (by cases hi), fun i hi => (by cases hi), fun i hi => (by cases hi), fun i hi => (by cases hi), fun i hi => (by cases hi), l5.t _ _ h4s, l5.t _ _ h4r, fun i hi => (by cases hi), fun i hi => (by cases hi), xla.symm⟩⟩, fun _ _ z => z, hlc, fun b o hb hne => l5.t _ _ (k4 b o hb hne), fun i hi => (by cases hi)⟩⟩
    (fun k σ H' _ ⟨_, _, _, _, _, _, M⟩ => SqL.of M.ls) ?_ ?_
  · rintro k y σ H6 hy ⟨ad, s2, s3, s4, s5, rfl, M⟩
    obtain ⟨⟨s, m⟩, hc⟩ : ∃ c, B.cells[k]? = some c := by
      have h1 := (List.getElem?_eq_some_iff.mp hy).1
      rw [hxs.len, List.length_map] at h1
      exact ⟨_, List.getElem?_eq_getElem h1⟩
    obtain ⟨hs, hm⟩ := mem_cells.mp (List.mem_of_getElem? hc)
    obtain ⟨v, hv, hyd⟩ := hxs.get (i := k) (d := cellD (s, m)) (by rw [List.getElem?_map, hc]; rfl)
    rw [hy] at hv
    cases hv
    have cellAt : ∀ {H' : Hp}, KeepT H5 H' → Dq H' (cellD (s, m)) y := fun k => Dq.keepT k rfl (hyd.mono l5.w)
    have hy6 := cellAt M.kt
    obtain ⟨q0, us, rfl, hq, h2⟩ := id hy6
    match us, h2 with
    | [z1, z2], h2 =>
      cases (show z1 = V.int s from h2.1)
      cases (show z2 = V.int m from h2.2.1)
      have key : ∀ {H' : Hp}, KeepT H5 H' → H' q0 = some (.tup ((keyC (s, m)).map kV)) := fun k => by
        obtain ⟨q', e1, e2⟩ := keyC_of (c := (s, m)) (cellAt k)
        cases e1
        exact e2
      have env : ∀ {L Ls Lr ad H'} {s5 : Option V} {r5 : Sv}, MK L Ls Lr ad H' → SvOk H' H' H' s5 r5 → EnvOk H' H' H' [some (.ref x), some vb, some (.ref q0), some (.int s), some (.int m), s5] [.any, .dat (basinD B), .dat (cellD (s, m)), .dat (natD s), .dat (natD m), r5] := fun M h5 =>
        ⟨trivial, ⟨vb, rfl, M.net.2.1⟩, ⟨_, rfl, cellAt M.kt⟩, ⟨_, rfl, rfl⟩, ⟨_, rfl, rfl⟩, h5, trivial⟩
      have nd := idsTo_nodup B (k + 1)
      rw [idsTo_succ hc] at nd
      have nd1 := (List.nodup_append.mp nd).1
      have nd0 := (List.nodup_append.mp nd1).1
      have no1 := snoc_no nd0
      have hl0 := hlen k
      have flen : ∀ p : Nat × Nat → Bool, ((B.cells.take k).filter p).length ≤ 16 := fun p => by
        have h1 := List.length_filter_le p (B.cells.take k)
        have h2 : B.cells.length ≤ 16 := by rw [cells_len]; exact Nat.mul_le_mul hB.M hB.n
        rw [List.length_take] at h1
        omega
      -- number, month = cell; site
      refine ⟨_, rfl, q0, _, rfl, SqT.of hq, rfl, .int s, _, rfl, .int m, _, rfl, rfl, ?_⟩
      dsimp only
      refine asg_at (env (r5 := .any) M trivial) (d := siteD s (B.site s)) (by walk_at "ed") fun sv H7 e7 hsv => ?_
      have M7 := M.ex e7
      -- self.add(SOURCE, cell, cell_supply(basin, cell))
      refine ⟨_, rfl, x, dx, _, rfl, M7.net.1, net_no (by decide +kernel) (by decide +kernel) (by decide +kernel) (by decide +kernel), ?_⟩
      refine ea_at (env (r5 := .any) M7 trivial) (ds := [.str "source", cellD (s, m), .int (B.supply s m)]) (by exact ea_cons ed_str (ea_cons (ed_var rfl) (ea_cons (ed_callT (by walk_at "ed") rfl ⟨B, s, m, hB, hs, hm, rfl, rfl⟩) ea_nil))) _ fun vs H8 e8 hvs => ?_
      obtain ⟨t1, h1, m1, rfl, ht1, hh1, hm1⟩ := three hvs
      have M8 := M7.ex e8
      refine M8.add lcl nla (i := .src s m) no1 (by omega) hm1 ht1 hh1 fun a1 H9 M9 kt9 => ?_
      have hsv9 : Dq H9 (siteD s (B.site s)) sv := Dq.keepT kt9 (imm_site _ _) (hsv.mono e8)
      have letAt : ∀ {L Ls Lr ad H'}, MK L Ls Lr ad H' → ∀ (Q : VK), (∀ v H2, Ex H' H2 → Dq H2 (optCellD (B.letTo s m)) v → Q v H2) → (tCall (spD 2 d_let_to) [] E0 (tCons (tVar 1) (tCons (tVar 2) tNil))) [some (.ref x), some vb, some (.ref q0), some (.int s), some (.int m), some sv] H' Q := fun M Q h =>
        ed_at (env (r5 := .any) M trivial) (d := optCellD (B.letTo s m)) (by exact ed_callT (by walk_at "ed") rfl ⟨B, s, m, hB, hs, hm, rfl, rfl⟩) Q h
      refine ⟨fun σ1 H' => ∃ ad, σ1 = [some (.ref x), some vb, some (.ref q0), some (.int s), some (.int m), some sv] ∧ Dq H' (siteD s (B.site s)) sv ∧ MK (idsTo B k ++ [.src s m] ++ stoI B (s, m)) ((B.cells.take k).filter sP ++ [(s, m)].filter sP) ((B.cells.take k).filter rP) ad H', ?_, ?_⟩
      · refine et_at (env (r5 := .any) M9 trivial) (b := decide ((m : Int) + 1 < (B.M : Int))) (by walk_at "ed") _ fun H10 e10 => ?_
        have M10 := M9.ex e10
        by_cases hsp : m + 1 < B.M
        · refine ifT (decide_eq_true (by omega)) ?_
          have eI : stoI B (s, m) = [.sto s m] := if_pos hsp
          have eP : [(s, m)].filter sP = [(s, m)] := by
            rw [List.filter_cons, if_pos (decide_eq_true hsp)]
            rfl
          rw [eI, eP]
          rw [eI] at nd1
          have hcs : ¬ (s, m) ∈ (B.cells.take k).filter sP := fun z => by
            have h1 := (List.mem_filter.mp z).1
            have h2 : AId.src s m ∈ idsTo B k := List.mem_flatMap.mpr ⟨(s, m), h1, List.mem_cons_self⟩
            exact no1 h2
          refine ⟨_, rfl, x, dx, _, rfl, M10.net.1, net_no (by decide +kernel) (by decide +kernel) (by decide +kernel) (by decide +kernel), ?_⟩
          refine ea_at (env (r5 := .dat (siteD s (B.site s))) M10 ⟨sv, rfl, hsv9.mono e10⟩) (ds := [cellD (s, m), cellD (s, m + 1), .int (B.site s).room]) (by exact ea_cons (ed_var rfl) (ea_cons (ed_is (d := .tuple [natD s, .int ((m : Int) + 1)]) (by walk_at "ed") rfl) (ea_cons (by walk_at "ed") ea_nil))) _ fun vs H12 e12 hvs => ?_
          obtain ⟨t2, h2', m2, rfl, ht2, hh2, hm2⟩ := three hvs
          have M12 := M10.ex e12
          refine M12.add lcl nla (i := .sto s m) (snoc_no nd1) (by rw [List.length_append]; show _ + 1 < _; omega) hm2 ht2 hh2 fun a2 H13 M13 kt13 => ?_
          have M13' := M13.sto nds dsr (c := (s, m)) (List.mem_append_right _ (List.mem_singleton.mpr rfl))
          have ea : (if AId.sto s m = AId.sto s m then a2 else if AId.sto s m = AId.src s m then a1 else ad (.sto s m)) = a2 := if_pos rfl
          refine ⟨_, rfl, x, CN, dx, _, _, rfl, M13.net.1, T.clN, T.n_storages, net_sto, _, rfl, ds, _, rfl, DPut.t M13.net.2.2.1 (key M13.kt) (Nat.lt_of_lt_of_le (by rw [List.length_map]; have := flen sP; omega : _ < 1000) (by decide)), ?_⟩
          rw [putK_map hcs]
          refine ⟨fun j => if j = AId.sto s m then a2 else if j = AId.src s m then a1 else ad j, rfl, ?_, ?_⟩
          · exact Dq.keepT (KeepT.trans kt13 fun b ys hb => by rw [upd_ne (fun z => by subst z; rw [M13.net.2.2.1] at hb; cases hb)]; exact hb) (imm_site _ _) ((hsv9.mono e10).mono e12)
          · have h := M13'
            show Making CA CN H H5 lc xs B x dx vb ds dr la _ _ _ _ _
            rw [show (V.ref a2) = V.ref ((fun j => if j = AId.sto s m then a2 else if j = AId.src s m then a1 else ad j) (.sto (s, m).1 (s, m).2)) from (congrArg V.ref ea).symm]
            exact h
        · refine ifF (decide_eq_false (by omega)) ?_
          have eI : stoI B (s, m) = [] := if_neg hsp
          have eP : [(s, m)].filter sP = [] := by
            rw [List.filter_cons, if_neg (show ¬ decide (m + 1 < B.M) = true by rw [decide_eq_false hsp]; decide)]
            rfl
          rw [eI, eP, List.append_nil, List.append_nil]
          exact ⟨_, rfl, hsv9.mono e10, M10⟩
      · rintro σ1 H10 ⟨ad', rfl, hsv10, M10⟩
        have es : (B.cells.take (k + 1)).filter sP = (B.cells.take k).filter sP ++ [(s, m)].filter sP := by
          rw [List.take_succ, hc, List.filter_append]
          rfl
        have er : (B.cells.take (k + 1)).filter rP = (B.cells.take k).filter rP ++ [(s, m)].filter rP := by
          rw [List.take_succ, hc, List.filter_append]
          rfl
        rw [idsTo_succ hc, es, er]
        refine letAt M10 _ fun v1 H11 e11 hv1 => ?_
        have M11 := M10.ex e11
        cases hlt : B.letTo s m with
        | none =>
          rw [hlt] at hv1
          cases (show v1 = V.non from hv1)
          refine ⟨rfl, _, rfl, ifF rfl ?_⟩
          have eI : relI B (s, m) = [] := if_neg (by show ¬ (B.letTo s m).isSome = true; rw [hlt]; decide)
          have eP : [(s, m)].filter rP = [] := by
            rw [List.filter_cons, if_neg (show ¬ (B.letTo s m).isSome = true by rw [hlt]; decide)]
            rfl
          rw [eI, eP, List.append_nil, List.append_nil]
          exact ⟨_, _, _, _, _, rfl, M11⟩
        | some c' =>
          rw [hlt] at hv1
          have nn : decide (v1 = V.non) = false := by
            rw [isNon_iff hv1]
            rfl
          refine ⟨rfl, _, rfl, ifT (by rw [nn]; rfl) ?_⟩
          have eI : relI B (s, m) = [.rel s m] := if_pos (by show (B.letTo s m).isSome = true; rw [hlt]; rfl)
          have eP : [(s, m)].filter rP = [(s, m)] := by
            rw [List.filter_cons, if_pos (show (B.letTo s m).isSome = true by rw [hlt]; rfl)]
            rfl
          rw [eI, eP]
          rw [eI] at nd
          have hcr : ¬ (s, m) ∈ (B.cells.take k).filter rP := fun z => by
            have h1 := (List.mem_filter.mp z).1
            have h2 : AId.src s m ∈ idsTo B k := List.mem_flatMap.mpr ⟨(s, m), h1, List.mem_cons_self⟩
            exact no1 h2
          have hl2 : (idsTo B k ++ [AId.src s m] ++ stoI B (s, m)).length < 1000 := by
            rw [List.length_append, List.length_append]
            have : (stoI B (s, m)).length ≤ 1 := by unfold stoI; split <;> simp
            show _ + 1 + _ < _
            omega
          have hhd : nodeD (B.net.hd (.rel s m)) = cellD c' := by
            show nodeD (toNode (B.letTo s m)) = _
            rw [hlt]
            rfl
          refine ⟨_, rfl, x, dx, _, rfl, M11.net.1, net_no (by decide +kernel) (by decide +kernel) (by decide +kernel) (by decide +kernel), ?_⟩
          refine ea_at (env (r5 := .dat (siteD s (B.site s))) M11 ⟨sv, rfl, hsv10.mono e11⟩) (ds := [cellD (s, m), optCellD (B.letTo s m), optD (B.site s).reach]) (by exact ea_cons (ed_var rfl) (ea_cons (ed_callT (by walk_at "ed") rfl ⟨B, s, m, hB, hs, hm, rfl, rfl⟩) (ea_cons (by walk_at "ed") ea_nil))) _ fun vs H12 e12 hvs => ?_
          obtain ⟨t2, h2', m2, rfl, ht2, hh2, hm2⟩ := three hvs
          rw [hlt] at hh2
          have M12 := M11.ex e12
          have hm2' : m2 = optV (B.net.most (.rel s m)) := by
            show m2 = optV (B.site s).reach
            cases hr : (B.site s).reach with
            | none => rw [hr] at hm2; exact hm2
            | some c => rw [hr] at hm2; exact hm2
          refine M12.add lcl nla (i := .rel s m) (snoc_no nd) hl2 hm2' ht2 (by rw [hhd]; exact hh2) fun a2 H13 M13 kt13 => ?_
          have M13' := M13.rel ndr dsr (c := (s, m)) (List.mem_append_right _ (List.mem_singleton.mpr rfl))
          have ea : (if AId.rel s m = AId.rel s m then a2 else ad' (.rel s m)) = a2 := if_pos rfl
          refine ⟨_, rfl, x, CN, dx, _, _, rfl, M13.net.1, T.clN, T.n_releases, net_rel, _, rfl, dr, _, rfl, DPut.t M13.net.2.2.2 (key M13.kt) (Nat.lt_of_lt_of_le (by rw [List.length_map]; have := flen rP; omega : _ < 1000) (by decide)), ?_⟩
          rw [putK_map hcr]
          refine ⟨fun j => if j = AId.rel s m then a2 else ad' j, _, _, _, _, rfl, ?_⟩
          have h := M13'
          show Making CA CN H H5 lc xs B x dx vb ds dr la _ _ _ _ _
          rw [show (V.ref a2) = V.ref ((fun j => if j = AId.rel s m then a2 else ad' j) (.rel (s, m).1 (s, m).2)) from (congrArg V.ref ea).symm]
          exact h
  · rintro σ H6 ⟨ad, s2, s3, s4, s5, rfl, M⟩
    have hxl : xs.length = B.cells.length := by rw [hxs.len, List.length_map]
    rw [hxl] at M
    have M' := M
    obtain ⟨⟨ax, tv, hv, n⟩, kt, ls, fr, new⟩ := M
    rw [idsTo_all, List.take_length] at n
    rw [idsTo_all] at new
    exact q ⟨B, ad, ax, tv, hv, x, dx, vb, ds, dr, la⟩ H6 rfl rfl ⟨n.net, n.bas, n.lst, n.inj, n.no, n.arc, n.tl, n.hd, n.sto, n.rel⟩ new fr
end HW
end
section
/-! HWN6: leading water for all claims, the oldest first. -/
namespace HW
open PySem PySem.Spec PyProof.Rows L2
local macro_rules | `(tactic| walk_at "ed") => `(tactic| repeat' (first
  | exact ed_int | exact ed_str | exact ed_bl | exact ed_non | exact ea_nil | exact eo_none
  | exact ed_var rfl
  | with_reducible apply ea_cons
  | with_reducible apply ed_op
  | with_reducible apply ed_un
  | with_reducible apply ed_tupT
  | with_reducible apply ed_lstT
  | with_reducible apply et_test
  | with_reducible apply et_B
  | with_reducible apply et_andC
  | with_reducible apply et_orC
  | with_reducible apply et_not
  | with_reducible apply eo_some
  | with_reducible apply ed_callT
  | exact rd_add | exact rd_sub | exact rd_lt | exact rd_le | exact rd_gt | exact rd_ge | exact rd_isN | exact rd_notN | exact ru_neg
  | exact rd_ixT rfl
  | exact rd_ixT (at_rng (by assumption))
  | exact rd_ixT (at_ints (by assumption))
  | exact rd_ixT (at_pred (by assumption))
  | (show List.length _ = _; exact rfl)
  | (show List.length _ ≤ 100000; exact Nat.le_of_ble_eq_true rfl)
  | apply ed_tupT))
local macro_rules | `(tactic| walk_at "gd") => `(tactic| repeat' (first | exact gd_name (by decide) | exact gs_nil | with_reducible apply gs_cons | refine' gd_tup ?_ rfl))
variable {P : Program} {w : World} {K : PySem.W.Frag} {mg : Str → Option Value} {base : Heap} {CA CN CS : Addr}
def spLed (CA CN : Addr) : Sp := fun vs H Q _ => ∃ (B : Basin) (R : List Right) (vb vr : V), vs = [vb, vr, .int ((claimL B R).length : Nat)] ∧ Bas B ∧ Rts B R ∧ Dq H (basinD B) vb ∧ Dq H (rightsD R) vr ∧
  ∀ (g : NG) (f : AId → Int) (as : List Int) (t lf : Addr) (H' : Hp), g.B = B → Led B.net .src (claims B R) as f → NetAt CA CN H' g f (fun _ => false) → H' t = some (.tup [.ref g.nw, .ref lf]) → H' lf = some (.lst (as.map V.int)) → Ex H H' → (∀ i ∈ B.ids, H (g.ad i) = none) → Q (.ref t) H'
/-- a list beside the network changes -/
theorem NetAt.other {H : Hp} {g : NG} {f : AId → Int} {fx : AId → Bool} (n : NetAt CA CN H g f fx) {l : Addr} {xs ys : List V} (hl : H l = some (.lst xs)) (hne : l ≠ g.la) : NetAt CA CN (upd H l (.lst ys)) g f fx := by
  have kt : KeepT H (upd H l (.lst ys)) := fun b zs hb => by
    rw [upd_ne (fun z => by subst z; rw [hl] at hb; cases hb)]
    exact hb
  have ne : ∀ {a : Addr} {o : HO}, H a = some o → (∀ k, o ≠ .lst k) → upd H l (.lst ys) a = some o := fun h no => by
    rw [upd_ne (fun z => by subst z; rw [hl] at h; cases h; exact no _ rfl)]
    exact h
  exact ⟨ne n.net (fun k z => nomatch z), Dq.keepT kt (imm_basin _) n.bas, by rw [upd_ne hne.symm]; exact n.lst, n.inj, n.no, fun i hi => ne (n.arc i hi) (fun k z => nomatch z), fun i hi => node_keep kt (n.tl i hi), fun i hi => node_keep kt (n.hd i hi), ne n.sto (fun k z => nomatch z), ne n.rel (fun k z => nomatch z)⟩
theorem forT_at {σ : Slots} {ρ : Rho} {H : Hp} {te : TE} {ds : List PyData} {g : TG} {tb u : TS} {D : Ends} {K : PySem.W.Frag} (env : EnvOk H H H σ ρ) (h : Ed H H te ρ (.tuple ds)) (q : ∀ tc xs H', Ex H H' → H' tc = some (.tup xs) → DqAll H' ds xs → tFor (fun _ H1 R => R (Itt K tc) H1) g tb { D with nx := u D } σ H') : tSeq (tFor (iTup K te) g tb) u D σ H :=
  ed_at env h _ fun v H' e hv => by
    obtain ⟨tc, xs, rfl, h1, h2⟩ := hv
    exact ⟨tc, rfl, ⟨xs, SqT.of h1⟩, q tc xs H' e h1 h2⟩
theorem forL_at {σ : Slots} {ρ : Rho} {H : Hp} {te : TE} {ds : List PyData} {g : TG} {tb u : TS} {D : Ends} {K : PySem.W.Frag} (env : EnvOk H H H σ ρ) (h : Ed H H te ρ (.list ds)) (q : ∀ tc xs H', Ex H H' → H' tc = some (.lst xs) → DqAll H' ds xs → tFor (fun _ H1 R => R (Itl K tc) H1) g tb { D with nx := u D } σ H') : tSeq (tFor (iList K te) g tb) u D σ H :=
  ed_at env h _ fun v H' e hv => by
    obtain ⟨tc, xs, rfl, h1, h2⟩ := hv
    exact ⟨tc, rfl, ⟨xs, SqL.of h1⟩, q tc xs H' e h1 h2⟩
theorem imm_claims (L : List Claim) : imm (.tuple (L.map claimD)) = true := by
  simp only [imm]
  exact immAll_map fun c => by cases c <;> rfl
theorem cut_whole (ds : List PyData) : cutD ds none (some (ds.length : Nat)) = ds := by
  unfold cutD
  rw [HT.sIx_none, HT.sIx_nat, Nat.min_self]
  simp
abbrev s_led : Stmt := tp 28
theorem sc_led : FnScope ["basin", "rights", "many", "network", "found", "claim"] ["basin", "rights", "many"] (defScope s_led) := ⟨rfl, rfl, rfl, by decide +kernel, rfl, by decide +kernel, by decide +kernel⟩
theorem ok_led {f : Addr} {fd : FuncData} (F : Fun K "led" "led" s_led f fd) (T : Txt K mg CA CN CS)
    (G_claim_cell : FnF P w K mg base 2 "claim_cell" ["basin", "rights", "claim"] (spD 3 d_claim_cell))
    (G_claim_size : FnF P w K mg base 1 "claim_size" ["basin", "rights", "claim"] (spD 3 d_claim_size))
    (G_claims : FnF P w K mg base 1 "claims" ["basin", "rights"] (spD 2 d_claims))
    (I_Network : InF P w K mg base CN 4 "Network" ["self", "basin"] (spNetI CA CN))
    (M_Network_push : MtF P w K mg base CN 4 "push" ["self", "begin", "end", "most"] (spPush CA CN)) : FnOk P w K mg base CX0 6 f fd ["basin", "rights", "many"] (spLed CA CN) := by
  refine F.ok sc_led (fun vs H Q E h => ?_) (fun cdv A outer s H vs Q E hr h => ?_)
  · obtain ⟨_, _, _, _, rfl, _⟩ := h; rfl
  refine ⟨_, (pss_cons (ps_set (i := 3) sc_led.nd rfl (Or.inl rfl) (pe_mk I_Network (hr.mono (by decide)) rfl (pa_cons (pv 0) pa_nil)))
 (pss_cons (ps_set (i := 4) sc_led.nd rfl (Or.inl rfl) (pe_lst pa_nil))
 (pss_cons (ps_for PassesOwn.never rfl (pi_tupK (K := K) rfl (pe_slice (sl_tupK (K := K) rfl) (pe_fn G_claims (hr.mono (by decide)) rfl (pa_cons (pv 0) (pa_cons (pv 1) pa_nil))) po_none (po_some (pv 2)))) (pg_name (i := 5) sc_led.nd rfl (Or.inl rfl))
  (pss_one (ps_expr (pe_bm PySem.F.plainAttrs_list PySem.F.slot_list_append PySem.F.type_list_append mt_append (pv 4) (pa_cons (pe_mt M_Network_push T.clN (hr.mono (by decide)) (pv 3) (pa_cons (pe_gl T.SOURCE rfl) (pa_cons (pe_fn G_claim_cell (hr.mono (by decide)) rfl (pa_cons (pv 0) (pa_cons (pv 1) (pa_cons (pv 5) pa_nil)))) (pa_cons (pe_fn G_claim_size (hr.mono (by decide)) rfl (pa_cons (pv 0) (pa_cons (pv 1) (pa_cons (pv 5) pa_nil)))) pa_nil)))) pa_nil)))))
 (pss_one (ps_ret (pe_tup (pa_cons (pv 3) (pa_cons (pv 4) pa_nil)))))))), ?_⟩
  obtain ⟨B, R, vb, vr, rfl, hB, hR, hb, hr', q⟩ := h
  have zc : (claimL B R).length ≤ 20 := by
    unfold claimL
    rw [parts_len]
    have := Nat.mul_le_mul hR.len hB.M
    have := hB.n
    omega
  -- network = Network(basin)
  refine ⟨_, rfl, ?_⟩
  intro x nx nxn nnx ne
  have e0 : Ex H (upd (upd H nx (.own x)) x (.ins CN nx [])) := fun b o hb' => by
    rw [upd_ne (ne_of_none hb' nxn), upd_ne (ne_of_none hb' nnx)]
    exact hb'
  refine ⟨x, nx, B, vb, rfl, upd_same, hB, hb.mono e0, fun g H1 hgB hgw n new fr => ⟨rfl, ?_⟩⟩
  subst hgB
  have e1 : Ex H H1 := fun b o hb' => fr b o (e0 b o hb') (ne_of_none hb' nxn)
  have newH : ∀ i ∈ g.B.ids, H (g.ad i) = none := fun i hi => Evl.fresh_back e0 (new i hi)
  -- found = []
  refine ⟨by decide, fun lf hlf => ?_⟩
  have e2 : Ex H1 (upd H1 lf (.lst [])) := Evl.Ex.new hlf
  have hlf0 : H lf = none := Evl.fresh_back e1 hlf
  have n2 := n.ex e2
  have env : ∀ {H' : Hp} {s3 s4 s5 : Option V}, Ex H H' → EnvOk H' H' H' [some vb, some vr, some (.int ((claimL g.B R).length : Nat)), s3, s4, s5] [.dat (basinD g.B), .dat (rightsD R), .dat (natD (claimL g.B R).length), .any, .any, .any] := fun e =>
    ⟨⟨_, rfl, hb.mono e⟩, ⟨_, rfl, hr'.mono e⟩, ⟨_, rfl, rfl⟩, trivial, trivial, trivial, trivial⟩
  -- for claim in claims(basin, rights)[:many]
  dsimp only
  refine forT_at (env (e1.trans e2)) (ds := (claimL g.B R).map claimD) (by
    refine ed_is (ed_slA (ds := (claimL g.B R).map claimD) (lo := none) (hi := some ((claimL g.B R).length : Nat)) (ed_callT (by walk_at "ed") rfl ⟨g.B, R, hB, hR, rfl, rfl⟩) eo_none (eo_some (ed_var rfl))) ?_
    have := cut_whole ((claimL g.B R).map claimD)
    rw [List.length_map] at this
    rw [this]) fun tc xs H3 e3 htc hxs => ?_
  have hxl : xs.length = (claimL g.B R).length := by rw [hxs.len, List.length_map]
  refine for_tup (xs := xs) (fun k σ H' => ∃ (f : AId → Int) (as : List Int) (s5 : Option V), σ = [some vb, some vr, some (.int ((claimL g.B R).length : Nat)), some (.ref x), some (.ref lf), s5] ∧ NetAt CA CN H' g f (fun _ => false) ∧ Led g.B.net .src ((claims g.B R).take k) as f ∧ H' lf = some (.lst (as.map V.int)) ∧ Ex H H' ∧ KeepT H3 H')
    ⟨fun _ => 0, [], none, rfl, n2.ex e3, Led.nil (zero_feas hB.ok) (fun X _ => zero_gain X), e3 _ _ upd_same, (e1.trans e2).trans e3, fun _ _ z => z⟩ (fun k σ H' _ ⟨_, _, _, _, _, _, _, _, kt⟩ => SqT.of (kt _ _ htc)) ?_ ?_
  · rintro k y σ H4 hy ⟨f', as, s5, rfl, n4, L4, hl4, e4, kt4⟩
    obtain ⟨c, hc⟩ : ∃ c, (claimL g.B R)[k]? = some c := by
      have h1 := (List.getElem?_eq_some_iff.mp hy).1
      rw [hxl] at h1
      exact ⟨_, List.getElem?_eq_getElem h1⟩
    obtain ⟨v, hv', hcd⟩ := hxs.get (i := k) (d := claimD c) (by rw [List.getElem?_map, hc]; rfl)
    rw [hy] at hv'
    cases hv'
    have okc := claim_ok (List.mem_of_getElem? hc)
    have hcl : (claims g.B R)[k]? = some (Node.cell (c.cell g.B R).1 (c.cell g.B R).2, c.size g.B R) := by
      rw [claims_eq, List.getElem?_map, hc]
      rfl
    have tk : (claims g.B R).take (k + 1) = (claims g.B R).take k ++ [(Node.cell (c.cell g.B R).1 (c.cell g.B R).2, c.size g.B R)] := by rw [List.take_succ, hcl]; rfl
    have hne := claims_ne hB.M0 hB.ok hR.ok _ (List.mem_of_getElem? hcl)
    have hcd4 : Dq H4 (claimD c) y := Dq.keepT kt4 (by cases c <;> rfl) hcd
    have hal : as.length < 100000 := by
      rw [L4.len, List.length_take]
      have : (claims g.B R).length = (claimL g.B R).length := by rw [claims_eq, List.length_map]
      omega
    refine ⟨_, rfl, .inl ⟨rfl, _, SqL.of hl4⟩, _, rfl, g.nw, g.nx, _, by rw [hgw], n4.net, net_no (by decide +kernel) (by decide +kernel) (by decide +kernel) (by decide +kernel), ?_⟩
    have env4 : EnvOk H4 H4 H4 [some vb, some vr, some (.int ((claimL g.B R).length : Nat)), some (.ref x), some (.ref lf), some y] [.dat (basinD g.B), .dat (rightsD R), .any, .any, .any, .dat (claimD c)] := ⟨⟨_, rfl, hb.mono e4⟩, ⟨_, rfl, hr'.mono e4⟩, trivial, trivial, trivial, ⟨_, rfl, hcd4⟩, trivial⟩
    refine ea_at env4 (ds := [.str "source", cellD (c.cell g.B R), .int (c.size g.B R)]) (by exact ea_cons ed_str (ea_cons (ed_callT (by walk_at "ed") rfl ⟨g.B, R, c, hB, hR, okc, rfl, rfl⟩) (ea_cons (ed_callT (by walk_at "ed") rfl ⟨g.B, R, c, hB, hR, okc, rfl, rfl⟩) ea_nil))) _ fun vs H5 e5 hvs => ?_
    obtain ⟨t1, h1, m1, rfl, ht1, hh1, hm1⟩ := three hvs
    cases (show m1 = V.int _ from hm1)
    refine ⟨g, f', _, .src, Node.cell (c.cell g.B R).1 (c.cell g.B R).2, t1, h1, c.size g.B R, by rw [hgw]; rfl, hB, n4.ex e5, ht1, hh1, L4.feas, hne.2, fun t f'' H6 Pu dn n6 kt6 fr6 => ?_⟩
    have lfn : ∀ i ∈ g.B.ids, lf ≠ g.ad i := fun i hi z => by
      have h1 := n4.arc i hi
      rw [← z, hl4] at h1
      cases h1
    have hl6 : H6 lf = some (.lst (as.map V.int)) := fr6 _ _ (e5 _ _ hl4) lfn
    have lfla : lf ≠ g.la := fun z => by rw [z, n.lst] at hlf; cases hlf
    have e6 : Ex H H6 := fun b o hb' => fr6 b o (e5 _ _ (e4 _ _ hb')) fun i hi z => by
      subst z
      rw [newH i hi] at hb'
      cases hb'
    have kt7 : KeepT H6 (upd H6 lf (.lst (as.map V.int ++ [.int t]))) := fun b ys hb' => by
      rw [upd_ne (fun z => by subst z; rw [hl6] at hb'; cases hb')]
      exact hb'
    refine ⟨lf, as.map V.int, .int t, rfl, rfl, hl6, Nat.lt_of_lt_of_le (by rw [List.length_map]; exact hal) (by decide), f'', as ++ [t], _, rfl, n6.other hl6 lfla, ?_, ?_, Evl.Ex.mut e6 hlf0, KeepT.trans (KeepT.trans (KeepT.trans kt4 (KeepT.of e5)) kt6) kt7⟩
    · rw [tk]
      exact L4.snoc hne.1 (fun _ _ => rfl) Pu dn
    · rw [upd_same, List.map_append]
      rfl
  · rintro σ H4 ⟨f', as, s5, rfl, n4, L4, hl4, e4, kt4⟩
    have full : (claims g.B R).take xs.length = claims g.B R := List.take_of_length_le (by rw [hxl, claims_eq, List.length_map]; exact Nat.le_refl _)
    rw [full] at L4
    refine ⟨_, rfl, _, rfl, (by show 2 ≤ sizeLine; decide), fun t ht => ?_⟩
    have e5 : Ex H4 (upd H4 t (.tup [.ref x, .ref lf])) := Evl.Ex.new ht
    exact q g f' as t lf _ rfl L4 (n4.ex e5) (by rw [upd_same, hgw]) (e5 _ _ hl4) (e4.trans e5) newH
end HW
end
section
/-! HWN7: the best operation. -/
namespace HW
open PySem PySem.Spec PyProof.Rows L2
local macro_rules | `(tactic| walk_at "ed") => `(tactic| repeat' (first
  | exact ed_int | exact ed_str | exact ed_bl | exact ed_non | exact ea_nil | exact eo_none
  | exact ed_var rfl
  | with_reducible apply ea_cons
  | with_reducible apply ed_op
  | with_reducible apply ed_un
  | with_reducible apply ed_tupT
  | with_reducible apply ed_lstT
  | with_reducible apply et_test
  | with_reducible apply et_B
  | with_reducible apply et_andC
  | with_reducible apply et_orC
  | with_reducible apply et_not
  | with_reducible apply eo_some
  | with_reducible apply ed_callT
  | exact rd_add | exact rd_sub | exact rd_lt | exact rd_le | exact rd_gt | exact rd_ge | exact rd_isN | exact rd_notN | exact ru_neg
  | exact rd_ixT rfl
  | exact rd_ixT (at_rng (by assumption))
  | exact rd_ixT (at_ints (by assumption))
  | exact rd_ixT (at_pred (by assumption))
  | (show List.length _ = _; exact rfl)
  | (show List.length _ ≤ 100000; exact Nat.le_of_ble_eq_true rfl)
  | apply ed_tupT))
local macro_rules | `(tactic| walk_at "gd") => `(tactic| repeat' (first | exact gd_name (by decide) | exact gs_nil | with_reducible apply gs_cons | refine' gd_tup ?_ rfl))
variable {P : Program} {w : World} {K : PySem.W.Frag} {mg : Str → Option Value} {base : Heap} {CA CN CS : Addr}
/-- {cell: arc.flow for cell, arc in network.X.items()} -/
theorem items_comp {L : List (Nat × Nat)} {idf : Nat × Nat → AId} {ad : AId → Addr} {F : AId → Int} {fname : Str} {nw nx dA : Addr} {fs : List (Str × V)} {H1 : Hp} {σ : Slots} {D : Ends} {i : Nat} (T : Txt K mg CA CN CS) (hna : NoAttr K CN fname) (hσ : σ[3]? = some (some (.ref nw))) (hlen : σ.length = 16)
    (hn : H1 nw = some (.ins CN nx fs)) (hf : fs.lookup fname = some (.ref dA)) (hd : H1 dA = some (.dT (L.map fun c => (keyC c, .ref (ad (idf c)))))) (nd : L.Nodup) (hL : L.length ≤ 16)
    (ha : ∀ c ∈ L, ∃ ax t h m x, H1 (ad (idf c)) = some (.ins CA ax (arcF t h m (F (idf c)) x)))
    (q : ∀ Dn H2, H1 Dn = none → Ex H1 H2 → H2 Dn = some (.dT (L.map fun c => (keyC c, .int (F (idf c))))) → D.nx (σ.set i (some (.ref Dn))) H2) :
    tLock (tAsg (tDcT (iItemsT (tFld K (tVar 3) fname)) (gTup K 2 (gCons (gName 6) (gCons (gName 13) gNil))) tYes (tVar 6) (tFld K (tVar 13) "flow") [6, 13]) (gName i)) D σ H1 := by
  refine ⟨dA, _, hd, trivial, fun od => ?_⟩
  have nwd : nw ≠ dA := fun z => by subst z; rw [hn] at hd; cases hd
  refine ⟨_, hσ, nw, CN, nx, fs, _, rfl, by rw [upd_ne nwd]; exact hn, T.clN, hna, hf, dA, od, _, rfl, upd_same, fun qs ql hqs => ?_⟩
  intro Dn hDn
  have dDn : Dn ≠ dA := fun z => by subst z; rw [upd_same] at hDn; cases hDn
  have hDn1 : H1 Dn = none := by rw [upd_ne dDn] at hDn; exact hDn
  have g3 : (wipe σ [6, 13]).length = 16 := by rw [wipe_length]; exact hlen
  refine dc_it walk_pr (fun k H' => Ex (upd H1 dA (.frz od (.dT (L.map fun c => (keyC c, .ref (ad (idf c))))))) H' ∧ H' Dn = some (.dT ((L.take k).map fun c => (keyC c, .int (F (idf c))))))
    ⟨Evl.Ex.new hDn, upd_same⟩ (fun k H' _ p => p.1 _ _ upd_same) (fun k x H' H3 hk p y => ?_) fun H' p => ?_
  · obtain ⟨T1, x1, y1, rfl, hT, rfl, e1, e2⟩ := y
    rw [List.length_map] at hk
    have hc : L[k]? = some L[k] := List.getElem?_eq_getElem hk
    generalize L[k] = c at hc
    have hmem := List.mem_of_getElem? hc
    have hkv : (L.map fun c => (keyC c, V.ref (ad (idf c))))[k]? = some (keyC c, .ref (ad (idf c))) := by rw [List.getElem?_map, hc]; rfl
    dsimp only at e2
    rw [hkv] at e2
    cases (show some (V.ref (ad (idf c))) = some y1 from e2)
    obtain ⟨q1, hq1, rfl⟩ := Option.map_eq_some_iff.mp e1
    have hq2 := hqs k (keyC c) (.ref (ad (idf c))) q1 hkv hq1
    have e3 : Ex H' (upd H' T1 (.tup [.ref q1, .ref (ad (idf c))])) := Evl.Ex.new hT
    have hq3 := e3 _ _ (p.1 _ _ hq2)
    obtain ⟨ax, t, h, m, xx, harc⟩ := ha c hmem
    have adA : ad (idf c) ≠ dA := fun z => by rw [z, hd] at harc; cases harc
    have harc3 := e3 _ _ (p.1 _ _ (show upd H1 dA _ (ad (idf c)) = _ by rw [upd_ne adA]; exact harc))
    have w2 : wipe (((wipe σ [6, 13]).set 6 (some (.ref q1))).set 13 (some (.ref (ad (idf c))))) [6, 13] = wipe σ [6, 13] := by
      rw [wipe_set (by decide), wipe_set (by decide), wipe_idem]
    refine ⟨T1, _, rfl, SqT.of upd_same, rfl, .ref q1, _, rfl, .ref (ad (idf c)), _, rfl, rfl, w2, ?_⟩
    simp only [tYes, if_true]
    have s6 : (((wipe σ [6, 13]).set 6 (some (V.ref q1))).set 13 (some (V.ref (ad (idf c)))))[6]? = some (some (.ref q1)) := by
      rw [List.getElem?_set_ne (by decide), List.getElem?_set_self (by omega)]
    have s13 : (((wipe σ [6, 13]).set 6 (some (V.ref q1))).set 13 (some (V.ref (ad (idf c)))))[13]? = some (some (.ref (ad (idf c)))) := by
      rw [List.getElem?_set_self (by rw [List.length_set]; omega)]
    have tk : L.take (k + 1) = L.take k ++ [c] := by rw [List.take_succ, hc]; rfl
    have hno : ¬ c ∈ L.take k := fun z => by
      obtain ⟨j, hj, ej⟩ := List.mem_iff_getElem.mp z
      rw [List.length_take] at hj
      have hj2 : L[j]? = some c := by
        rw [List.getElem_take] at ej
        rw [List.getElem?_eq_getElem (by omega), ej]
      have h1 := (List.getElem?_inj (i := j) (j := k) (by omega) nd).mp (hj2.trans hc.symm)
      omega
    refine ⟨_, s6, _, s13, ad (idf c), CA, ax, _, _, rfl, harc3, T.clA, T.a_flow, arc_flow, (L.take k).map fun c => (keyC c, .int (F (idf c))), keyC c, q1, rfl, hq3, e3 _ _ p.2, Nat.lt_of_lt_of_le (by rw [List.length_map, List.length_take]; omega : _ < 1000) (by decide), ?_, ?_⟩
    · exact Evl.Ex.mut (p.1.trans e3) hDn
    · rw [upd_same, putK_map hno, tk, List.map_append]
      rfl
  · rw [List.length_map, List.take_length] at p
    obtain ⟨p1, p2⟩ := p
    refine ⟨p1 _ _ upd_same, q Dn _ hDn1 (fun b o hb => ?_) (by rw [upd_ne dDn]; exact p2)⟩
    by_cases e : b = dA
    · subst e
      rw [upd_same, ← hd]
      exact hb
    · rw [upd_ne e]
      exact p1 _ _ (by rw [upd_ne e]; exact hb)
theorem in_relC {B : Basin} {s m : Nat} (hs : s < B.n) (hm : m < B.M) : (s, m) ∈ relC B ↔ (B.letTo s m).isSome = true :=
  ⟨fun z => (List.mem_filter.mp z).2, fun h => List.mem_filter.mpr ⟨mem_cells.mpr ⟨hs, hm⟩, h⟩⟩
theorem in_stoC {B : Basin} {s m : Nat} (hs : s < B.n) (hm : m < B.M) : (s, m) ∈ stoC B ↔ m + 1 < B.M :=
  ⟨fun z => of_decide_eq_true (List.mem_filter.mp z).2, fun h => List.mem_filter.mpr ⟨mem_cells.mpr ⟨hs, hm⟩, decide_eq_true h⟩⟩
theorem claimL_at {B : Basin} {R : List Right} (hM : 0 < B.M) {k : Nat} {c : Claim} (h : (claimL B R)[k]? = some c) : match c with
    | .right r m => k = r * B.M + m
    | .room s => k = R.length * B.M + s := by
  unfold claimL at h
  rw [parts_get hM] at h
  by_cases h1 : k < R.length * B.M
  · rw [if_pos h1] at h
    cases (show some (Claim.right (k / B.M) (k % B.M)) = some c from h)
    show k = k / B.M * B.M + k % B.M
    rw [Nat.mul_comm]
    exact (Nat.div_add_mod k B.M).symm
  · rw [if_neg h1] at h
    by_cases h2 : k < R.length * B.M + B.n
    · rw [if_pos h2] at h
      cases (show some (Claim.room (k - R.length * B.M)) = some c from h)
      show k = R.length * B.M + (k - R.length * B.M)
      omega
    · rw [if_neg h2] at h
      cases h
theorem claimL_right {B : Basin} {R : List Right} {r m : Nat} (hr : r < R.length) (hm : m < B.M) : Claim.right r m ∈ claimL B R := by
  unfold claimL
  exact List.mem_of_getElem? (parts_right hr hm)
theorem claimL_room {B : Basin} {R : List Right} {s : Nat} (hs : s < B.n) : Claim.room s ∈ claimL B R := by
  unfold claimL
  exact List.mem_of_getElem? (parts_room hs)
theorem rowsD_congr {a p : Nat} {g g' : Nat → Nat → Int} (h : ∀ r m, r < a → m < p → g r m = g' r m) : rowsD a p g = rowsD a p g' := by
  unfold rowsD
  congr 1
  refine List.map_congr_left fun r hr => ?_
  congr 1
  refine List.map_congr_left fun m hm => ?_
  rw [h r m (List.mem_range.mp hr) (List.mem_range.mp hm)]
instance : DecidableEq Claim := by
  intro a b
  cases a with
  | right r m => cases b with
    | right r' m' =>
      by_cases h : r = r' ∧ m = m'
      · exact isTrue (by rw [h.1, h.2])
      · exact isFalse fun e => h (by cases e; exact ⟨rfl, rfl⟩)
    | room s => exact isFalse fun e => by cases e
  | room s => cases b with
    | right r m => exact isFalse fun e => by cases e
    | room s' =>
      by_cases h : s = s'
      · exact isTrue (by rw [h])
      · exact isFalse fun e => h (by cases e; rfl)
/-- what the two dicts hold behind k claims -/
def fD (B : Basin) (R : List Right) (as : List Int) (k : Nat) (c : Nat × Nat) : Option Int := if Claim.right c.1 c.2 ∈ (claimL B R).take k then some (dOf B as c.1 c.2) else none
def fS (B : Basin) (R : List Right) (as : List Int) (f : AId → Int) (k : Nat) (c : Nat × Nat) : Option Int := if c ∈ stoC B then some (f (.sto c.1 c.2)) else if c.2 = B.M - 1 ∧ Claim.room c.1 ∈ (claimL B R).take k then some (lastOf B R as c.1) else none
theorem if_at {σ : Slots} {ρ : Rho} {H : Hp} {c : TT} {b : Bool} {t u : TS} {D : Ends} (env : EnvOk H H H σ ρ) (h : EdT H H c ρ b) (h1 : b = true → ∀ H', Ex H H' → t D σ H') (h2 : b = false → ∀ H', Ex H H' → u D σ H') : tIfS c t u D σ H :=
  et_at env h _ fun H' e => by
    cases b with
    | true => exact h1 rfl H' e
    | false => exact h2 rfl H' e
theorem call_at {σ : Slots} {ρ : Rho} {H : Hp} {ta : TA} {ds : List PyData} {sp : Sp} {E : XK} {g : TG} {u : TS} {D : Ends} (env : EnvOk H H H σ ρ) (h : EdA H H ta ρ ds) (q : ∀ vs H', Ex H H' → DqAll H' ds vs → sp (vs ++ []) H' (fun x H1 => g x σ H1 (u D)) E) : tSeq (tAsg (tCall sp [] E ta) g) u D σ H :=
  ea_at env h _ fun vs H' e hv => q vs H' e hv
theorem forL_at1 {σ : Slots} {ρ : Rho} {H : Hp} {te : TE} {ds : List PyData} {g : TG} {tb : TS} {D : Ends} {K : PySem.W.Frag} (env : EnvOk H H H σ ρ) (h : Ed H H te ρ (.list ds)) (q : ∀ tc xs H', Ex H H' → H' tc = some (.lst xs) → DqAll H' ds xs → tFor (fun _ H1 R => R (Itl K tc) H1) g tb D σ H') : tFor (iList K te) g tb D σ H :=
  ed_at env h _ fun v H' e hv => by
    obtain ⟨tc, xs, rfl, h1, h2⟩ := hv
    exact ⟨tc, rfl, ⟨xs, SqL.of h1⟩, q tc xs H' e h1 h2⟩
def spOperation : Sp := fun vs H Q _ => ∃ (B : Basin) (R : List Right) (vb vr : V), vs = [vb, vr] ∧ Bas B ∧ Rts B R ∧ Dq H (basinD B) vb ∧ Dq H (rightsD R) vr ∧
  ∀ (as : List Int) (f : AId → Int) (v : V) (H' : Hp), Led B.net .src (claims B R) as f → Ex H H' → Dq H' (planD B R (dOf B as) (relOf B f) (stoOf B R as f)) v → Q v H'
theorem mem_stoC {B : Basin} {c : Nat × Nat} (h : c ∈ stoC B) : AId.sto c.1 c.2 ∈ B.ids := by
  obtain ⟨h1, h2⟩ := List.mem_filter.mp h
  have h2 := of_decide_eq_true h2
  obtain ⟨h3, h4⟩ := mem_cells.mp h1
  exact mem_ids.mpr ⟨h3, h2⟩
theorem mem_relC {B : Basin} {c : Nat × Nat} (h : c ∈ relC B) : AId.rel c.1 c.2 ∈ B.ids := by
  obtain ⟨h1, h2⟩ := List.mem_filter.mp h
  obtain ⟨h3, h4⟩ := mem_cells.mp h1
  exact mem_ids.mpr ⟨h3, h4, h2⟩
abbrev s_operation : Stmt := tp 34
theorem sc_operation : FnScope ["basin", "rights", "every", "network", "amounts", "arcs", "cell", "releases", "storages", "deliveries", "claim", "amount", "got", "arc", "number", "month"] ["basin", "rights"] (defScope s_operation) := ⟨rfl, rfl, rfl, by decide +kernel, rfl, by decide +kernel, by decide +kernel⟩
theorem ok_operation {f : Addr} {fd : FuncData} (F : Fun K "operation" "operation" s_operation f fd) (T : Txt K mg CA CN CS)
    (G_cells : FnF P w K mg base 1 "cells" ["basin"] (spD 1 d_cells))
    (G_claims : FnF P w K mg base 1 "claims" ["basin", "rights"] (spD 2 d_claims))
    (G_led : FnF P w K mg base 6 "led" ["basin", "rights", "many"] (spLed CA CN))
    (G_lessen : FnF P w K mg base 5 "lessen" ["network", "arc"] (spLessen CA CN))
    (G_rows_of : FnF P w K mg base 1 "rows_of" ["basin", "amounts"] spRows) : FnOk P w K mg base CX0 7 f fd ["basin", "rights"] spOperation := by
  refine F.ok sc_operation (fun vs H Q E h => ?_) (fun cdv A outer s H vs Q E hr h => ?_)
  · obtain ⟨_, _, _, _, rfl, _⟩ := h; rfl
  refine ⟨_, (pss_cons (ps_set (i := 2) sc_operation.nd rfl (Or.inl rfl) (pe_fn G_claims (hr.mono (by decide)) rfl (pa_cons (pv 0) (pa_cons (pv 1) pa_nil))))
 (pss_cons (ps_asg (pe_fn G_led (hr.mono (by decide)) rfl (pa_cons (pv 0) (pa_cons (pv 1) (pa_cons (pe_callB (call_lenK (K := K) rfl) rfl T.b_len PySem.boot_len (pa_cons (pv 2) pa_nil)) pa_nil)))) (pg_tupK (n := 2) (K := K) rfl rfl (pgs_cons (pg_name (i := 3) sc_operation.nd rfl (Or.inl rfl)) (pgs_cons (pg_name (i := 4) sc_operation.nd rfl (Or.inl rfl)) pgs_nil))))
 (Evl.pss_cut (ps_for PassesOwn.never rfl (pi_tupK (K := K) rfl (pe_tup (pa_cons (pe_fldK (K := K) rfl (pv 3) rfl) (pa_cons (pe_fldK (K := K) rfl (pv 3) rfl) pa_nil)))) (pg_name (i := 5) sc_operation.nd rfl (Or.inl rfl))
  (pss_one (ps_for PassesOwn.never rfl (pi_listK (K := K) rfl (pe_fn G_cells (hr.mono (by decide)) rfl (pa_cons (pv 0) pa_nil))) (pg_name (i := 6) sc_operation.nd rfl (Or.inl rfl))
  (pss_one (ps_if (pt_cmp (pc_din (hu_of hr) (pv 6) (pv 5)))
  (pss_one (ps_expr (pe_fn G_lessen (hr.mono (by decide)) rfl (pa_cons (pv 3) (pa_cons (pe_dget (hu_of hr) (pv 5) (pv 6) (fun _ _ => rfl)) pa_nil)))))
  pss_nil)))))
 (pss_cons (ps_lock (ps_setDcT (i := 7) (own := [("cell", 6), ("arc", 13)]) (hu_of hr) rfl sc_operation.nd rfl rfl (sw_trueD rfl rfl rfl (by decide +kernel)) (pi_itemsT (pe_fldK (K := K) rfl (pv 3) rfl)) (blkOk_by (own := [("cell", 6), ("arc", 13)]) (N := ["basin", "rights", "every", "network", "amounts", "arcs", "cell", "releases", "storages", "deliveries", "claim", "amount", "got", "arc", "number", "month"]) (sc := (defScope s_operation)) (by decide +kernel))
   (fun _ _ _ _ _ => (pg_tupK (n := 2) (K := K) rfl rfl (pgs_cons (pg_name (i := 6) sc_operation.nd rfl (Or.inl rfl)) (pgs_cons (pg_name (i := 13) sc_operation.nd rfl (Or.inl rfl)) pgs_nil))))
   (fun _ _ _ _ _ => pts_nil)
   (fun _ _ _ _ _ => (pv 6))
   (fun _ _ _ _ _ => (pe_fldK (K := K) rfl (pv 13) rfl))))
 (pss_cons (ps_lock (ps_setDcT (i := 8) (own := [("cell", 6), ("arc", 13)]) (hu_of hr) rfl sc_operation.nd rfl rfl (sw_trueD rfl rfl rfl (by decide +kernel)) (pi_itemsT (pe_fldK (K := K) rfl (pv 3) rfl)) (blkOk_by (own := [("cell", 6), ("arc", 13)]) (N := ["basin", "rights", "every", "network", "amounts", "arcs", "cell", "releases", "storages", "deliveries", "claim", "amount", "got", "arc", "number", "month"]) (sc := (defScope s_operation)) (by decide +kernel))
   (fun _ _ _ _ _ => (pg_tupK (n := 2) (K := K) rfl rfl (pgs_cons (pg_name (i := 6) sc_operation.nd rfl (Or.inl rfl)) (pgs_cons (pg_name (i := 13) sc_operation.nd rfl (Or.inl rfl)) pgs_nil))))
   (fun _ _ _ _ _ => pts_nil)
   (fun _ _ _ _ _ => (pv 6))
   (fun _ _ _ _ _ => (pe_fldK (K := K) rfl (pv 13) rfl))))
 (pss_cons (ps_set (i := 9) sc_operation.nd rfl (Or.inr rfl) pe_dnewT)
 (Evl.pss_cut (ps_for PassesOwn.never rfl (pi_zipTL rfl T.b_zip (pa_cons (pv 2) (pa_cons (pv 4) pa_nil))) (pg_tupK (n := 2) (K := K) rfl rfl (pgs_cons (pg_name (i := 10) sc_operation.nd rfl (Or.inl rfl)) (pgs_cons (pg_name (i := 11) sc_operation.nd rfl (Or.inl rfl)) pgs_nil)))
  (pss_one (ps_if (pt_cmpR (op_eqK (K := K) rfl hr.units) (pe_ix (ix_tupK (K := K) rfl) (pv 10) pe_int (fun _ _ => rfl)) pe_str (nomark _))
  (pss_one (ps_dput (hu_of hr) (pv 9) (pe_tup (pa_cons (pe_ix (ix_tupK (K := K) rfl) (pv 10) pe_int (fun _ _ => rfl)) (pa_cons (pe_ix (ix_tupK (K := K) rfl) (pv 10) pe_int (fun _ _ => rfl)) pa_nil))) (pv 11) rfl))
  (pss_one (ps_dput (hu_of hr) (pv 8) (pe_tup (pa_cons (pe_ix (ix_tupK (K := K) rfl) (pv 10) pe_int (fun _ _ => rfl)) (pa_cons (pe_op op_sub (pe_ix (ix_tupK (K := K) rfl) (pv 0) pe_int (fun _ _ => rfl)) pe_int) pa_nil))) (pv 11) rfl)))))
 (pss_cons (ps_set (i := 12) sc_operation.nd rfl (Or.inl rfl) (pe_callTy (call_tupK (K := K) rfl) rfl T.b_tuple (by decide +kernel) (pa_cons (pe_lc  (own := [("number", 14)]) rfl sc_operation.nd (pi_range1 rfl T.b_range (pa_cons (pe_callB (call_lenK (K := K) rfl) rfl T.b_len PySem.boot_len (pa_cons (pv 1) pa_nil)) pa_nil)) (blkOk_by (own := [("number", 14)]) (N := ["basin", "rights", "every", "network", "amounts", "arcs", "cell", "releases", "storages", "deliveries", "claim", "amount", "got", "arc", "number", "month"]) (sc := (defScope s_operation)) (by decide +kernel))
   (fun _ _ _ _ _ => (pg_name (i := 14) sc_operation.nd rfl (Or.inr rfl)))
   (fun _ _ _ _ _ => pts_nil)
   (fun _ _ _ _ _ => (pe_callTy (call_tupK (K := K) rfl) rfl T.b_tuple (by decide +kernel) (pa_cons (pe_lc  (own := [("month", 15)]) rfl sc_operation.nd (pi_range1 rfl T.b_range (pa_cons (pe_ix (ix_tupK (K := K) rfl) (pv 0) pe_int (fun _ _ => rfl)) pa_nil)) (blkOk_by (own := [("month", 15)]) (N := ["basin", "rights", "every", "network", "amounts", "arcs", "cell", "releases", "storages", "deliveries", "claim", "amount", "got", "arc", "number", "month"]) (sc := (relS _ (defScope s_operation))) (by decide +kernel))
   (fun _ _ _ _ _ => (pg_name (i := 15) sc_operation.nd rfl (Or.inl rfl)))
   (fun _ _ _ _ _ => pts_nil)
   (fun _ _ _ _ _ => (pe_dget (hu_of hr) (pv 9) (pe_tup (pa_cons (pv 14) (pa_cons (pv 15) pa_nil))) (fun _ _ => rfl)))) pa_nil)))) pa_nil)))
 (pss_one (ps_ret (pe_tup (pa_cons (pv 12) (pa_cons (pe_fn G_rows_of (hr.mono (by decide)) rfl (pa_cons (pv 0) (pa_cons (pv 7) pa_nil))) (pa_cons (pe_fn G_rows_of (hr.mono (by decide)) rfl (pa_cons (pv 0) (pa_cons (pv 8) pa_nil))) pa_nil)))))))))))))), ?_⟩
  obtain ⟨B, R, vb, vr, rfl, hB, hR, hb, hr', q⟩ := h
  have hM := hB.M
  have hn := hB.n
  have env0 : ∀ {H' : Hp} {r : Slots} {ρ : Rho}, Ex H H' → EnvOk H' H' H' r ρ → EnvOk H' H' H' (some vb :: some vr :: r) (.dat (basinD B) :: .dat (rightsD R) :: ρ) := fun e h => ⟨⟨_, rfl, hb.mono e⟩, ⟨_, rfl, hr'.mono e⟩, h⟩
  have anys : ∀ {H' : Hp} (σ : Slots), EnvOk H' H' H' σ (List.replicate σ.length .any) := fun σ => by
    induction σ with
    | nil => trivial
    | cons a l ih => exact ⟨trivial, ih⟩
  -- every = claims(basin, rights)
  dsimp only
  refine asg_at (env0 .rfl' (anys [none, none, none, none, none, none, none, none, none, none, none, none, none, none])) (d := .tuple ((claimL B R).map claimD)) (by exact ed_callT (by walk_at "ed") rfl ⟨B, R, hB, hR, rfl, rfl⟩) fun ev H1 e1 hev => ?_
  -- network, amounts = led(basin, rights, len(every))
  have env1 : EnvOk H1 H1 H1 [some vb, some vr, some ev, none, none, none, none, none, none, none, none, none, none, none, none, none] [.dat (basinD B), .dat (rightsD R), .dat (.tuple ((claimL B R).map claimD)), .any, .any, .any, .any, .any, .any, .any, .any, .any, .any, .any, .any, .any] := env0 e1 ⟨⟨ev, rfl, hev⟩, anys [none, none, none, none, none, none, none, none, none, none, none, none, none]⟩
  refine call_at env1 (ds := [basinD B, rightsD R, natD (claimL B R).length]) (by exact ea_cons (ed_var rfl) (ea_cons (ed_var rfl) (ea_cons (ed_lenM (ed_var rfl)) ea_nil))) fun vs H2 e2 hvs => ?_
  obtain ⟨b1, r1, l1, rfl, hb1, hr1, hl1⟩ := three hvs
  cases (show l1 = V.int _ from hl1)
  refine ⟨B, R, b1, r1, rfl, hB, hR, hb1, hr1, fun g f0 as t lf H3 hgB L0 n0 ht hlf e3 new => ?_⟩
  subst hgB
  refine ⟨t, _, rfl, SqT.of ht, rfl, .ref g.nw, _, rfl, .ref lf, _, rfl, rfl, ?_⟩
  have newH : ∀ i ∈ g.B.ids, H (g.ad i) = none := fun i hi => Evl.fresh_back (e1.trans e2) (new i hi)
  have e03 : Ex H H3 := (e1.trans e2).trans e3
  have lfn : ∀ i ∈ g.B.ids, lf ≠ g.ad i := fun i hi z => by
    have h1 := n0.arc i hi
    rw [← z, hlf] at h1
    cases h1
  refine ⟨fun σ' H' => ∃ (f : AId → Int) (fx : AId → Bool) (s5 s6 : Option V), σ' = [some vb, some vr, some ev, some (.ref g.nw), some (.ref lf), s5, s6, none, none, none, none, none, none, none, none, none] ∧ NetAt CA CN H' g f fx ∧ Led g.B.net .src (claims g.B R) as f ∧ Ex H H' ∧ KeepT H3 H' ∧ H' lf = some (.lst (as.map V.int)), ?_, ?_⟩
  · -- for arcs in (network.releases, network.storages)
    refine ⟨_, rfl, g.nw, CN, g.nx, _, _, rfl, n0.net, T.clN, T.n_releases, net_rel, _, rfl, g.nw, CN, g.nx, _, _, rfl, n0.net, T.clN, T.n_storages, net_sto, (by show 2 ≤ sizeLine; decide), fun tt htt => ⟨tt, rfl, ⟨_, SqT.of upd_same⟩, ?_⟩⟩
    have e4 : Ex H3 (upd H3 tt (.tup [.ref g.dr, .ref g.ds])) := Evl.Ex.new htt
    refine for_tup (xs := [.ref g.dr, .ref g.ds]) (fun k σ' H' => ∃ (f : AId → Int) (fx : AId → Bool) (s5 s6 : Option V), σ' = [some vb, some vr, some ev, some (.ref g.nw), some (.ref lf), s5, s6, none, none, none, none, none, none, none, none, none] ∧ NetAt CA CN H' g f fx ∧ Led g.B.net .src (claims g.B R) as f ∧ Ex H H' ∧ KeepT (upd H3 tt (.tup [.ref g.dr, .ref g.ds])) H' ∧ H' lf = some (.lst (as.map V.int)))
      ⟨f0, _, none, none, rfl, n0.ex e4, L0, e03.trans e4, fun _ _ z => z, e4 _ _ hlf⟩ (fun k σ' H' _ ⟨_, _, _, _, _, _, _, _, kt, _⟩ => SqT.of (kt _ _ upd_same)) ?_ ?_
    · rintro k y σ' H4 hy ⟨f', fx, s5, s6, rfl, n4, L4, e4', kt4, hl4⟩
      obtain ⟨dA, L, idf, rfl, hdA, hLi⟩ : ∃ (dA : Addr) (L : List (Nat × Nat)) (idf : Nat × Nat → AId), y = .ref dA ∧ (∀ H' f fx, NetAt CA CN H' g f fx → H' dA = some (.dT (L.map fun c => (keyC c, .ref (g.ad (idf c)))))) ∧ ∀ c ∈ L, idf c ∈ g.B.ids := by
        match k, hy with
        | 0, hy =>
          cases (show some (V.ref g.dr) = some y from hy)
          exact ⟨g.dr, relC g.B, fun c => .rel c.1 c.2, rfl, fun _ _ _ n => n.rel, fun c hc => mem_relC hc⟩
        | 1, hy =>
          cases (show some (V.ref g.ds) = some y from hy)
          exact ⟨g.ds, stoC g.B, fun c => .sto c.1 c.2, rfl, fun _ _ _ n => n.sto, fun c hc => mem_stoC hc⟩
        | k + 2, hy => simp at hy
      -- for cell in cells(basin)
      refine forL_at1 (ρ := [.dat (basinD g.B), .dat (rightsD R), .any, .any, .any, .any, .any, .any, .any, .any, .any, .any, .any, .any, .any, .any]) (env0 e4' (anys [some ev, some (.ref g.nw), some (.ref lf), some (.ref dA), s6, none, none, none, none, none, none, none, none, none])) (ds := g.B.cells.map cellD) (by exact ed_callT (by walk_at "ed") rfl ⟨g.B, hB, rfl, rfl⟩) fun tc xs H5 e5 htc hxs => ?_
      have tcn : ∀ i ∈ g.B.ids, tc ≠ g.ad i := fun i hi z => by
        have h1 := e5 _ _ (n4.arc i hi)
        rw [← z, htc] at h1
        cases h1
      refine for_list (xs := xs) (fun j σ' H' => ∃ (f : AId → Int) (fx : AId → Bool) (s6 : Option V), σ' = [some vb, some vr, some ev, some (.ref g.nw), some (.ref lf), some (.ref dA), s6, none, none, none, none, none, none, none, none, none] ∧ NetAt CA CN H' g f fx ∧ Led g.B.net .src (claims g.B R) as f ∧ Ex H H' ∧ KeepT H5 H' ∧ H' lf = some (.lst (as.map V.int)) ∧ H' tc = some (.lst xs))
        ⟨f', fx, s6, rfl, n4.ex e5, L4, e4'.trans e5, fun _ _ z => z, e5 _ _ hl4, htc⟩ (fun j σ' H' _ ⟨_, _, _, _, _, _, _, _, _, h⟩ => SqL.of h) ?_ ?_
      · rintro j z σ' H6 hz ⟨f6, fx6, s6, rfl, n6, L6, e6, kt6, hl6, htc6⟩
        obtain ⟨c, hc⟩ : ∃ c, g.B.cells[j]? = some c := by
          have h1 := (List.getElem?_eq_some_iff.mp hz).1
          rw [hxs.len, List.length_map] at h1
          exact ⟨_, List.getElem?_eq_getElem h1⟩
        obtain ⟨v, hv, hcd⟩ := hxs.get (i := j) (d := cellD c) (by rw [List.getElem?_map, hc]; rfl)
        rw [hz] at hv
        cases hv
        obtain ⟨q6, rfl, hq6⟩ := keyC_of (c := c) (Dq.keepT kt6 rfl hcd)
        have hd6 := hdA H6 f6 fx6 n6
        have dg := DGet.t hd6 hq6
        refine ⟨_, rfl, _, rfl, dA, _, rfl, dg, _, rfl, ?_⟩
        by_cases hcL : c ∈ L
        · rw [valV_yes hcL] at dg ⊢
          refine ifT rfl ?_
          refine ⟨_, rfl, _, rfl, _, rfl, dA, _, rfl, dg, g, f6, fx6, idf c, rfl, hB, hLi c hcL, n6, L6.feas, fun f7 fx7 H7 F7 g7 n7 kt7 fr7 => ?_⟩
          exact ⟨f7, fx7, _, rfl, n7, L6.flow F7 g7, (fun b o hb' => fr7 b o (e6 b o hb') fun i hi z => (by subst z; rw [newH i hi] at hb'; cases hb')), KeepT.trans kt6 kt7, fr7 _ _ hl6 lfn, fr7 _ _ htc6 tcn⟩
        · rw [valV_no hcL]
          exact ifF rfl ⟨f6, fx6, _, rfl, n6, L6, e6, kt6, hl6, htc6⟩
      · rintro σ' H6 ⟨f6, fx6, s6, rfl, n6, L6, e6, kt6, hl6, htc6⟩
        exact ⟨f6, fx6, _, _, rfl, n6, L6, e6, KeepT.trans (KeepT.trans kt4 (KeepT.of e5)) kt6, hl6⟩
    · rintro σ' H4 ⟨f', fx, s5, s6, rfl, n4, L4, e4', kt4, hl4⟩
      exact ⟨f', fx, s5, s6, rfl, n4, L4, e4', KeepT.trans (KeepT.of e4) kt4, hl4⟩
  rintro σ' H4 ⟨f', fx, s5, s6, rfl, n4, L4, e4', kt4, hl4⟩
  have sN : (stoC g.B).length ≤ 16 := by
    have h1 := List.length_filter_le (fun c : Nat × Nat => decide (c.2 + 1 < g.B.M)) g.B.cells
    have h2 : g.B.cells.length ≤ 16 := by rw [cells_len]; exact Nat.mul_le_mul hB.M hB.n
    show (g.B.cells.filter _).length ≤ 16
    omega
  have rN : (relC g.B).length ≤ 16 := by
    have h1 := List.length_filter_le (fun c : Nat × Nat => (g.B.letTo c.1 c.2).isSome) g.B.cells
    have h2 : g.B.cells.length ≤ 16 := by rw [cells_len]; exact Nat.mul_le_mul hB.M hB.n
    show (g.B.cells.filter _).length ≤ 16
    omega
  have ndS : (stoC g.B).Nodup := cells_nodup.filter _
  have ndR : (relC g.B).Nodup := cells_nodup.filter _
  -- releases = {..}
  refine items_comp (L := relC g.B) (idf := fun c => .rel c.1 c.2) (F := f') T T.n_releases rfl rfl n4.net net_rel n4.rel ndR rN (fun c hc => ⟨_, _, _, _, _, n4.arc _ (mem_relC hc)⟩) fun dR H5 ndR5 e5 hdR => ?_
  have n5 := n4.ex e5
  -- storages = {..}
  refine items_comp (L := stoC g.B) (idf := fun c => .sto c.1 c.2) (F := f') T T.n_storages rfl rfl n5.net net_sto n5.sto ndS sN (fun c hc => ⟨_, _, _, _, _, n5.arc _ (mem_stoC hc)⟩) fun dS H6 ndS6 e6 hdS => ?_
  -- deliveries = {}
  intro dD hdD
  have hdR6 := e6 _ _ hdR
  have e7 : Ex H6 (upd H6 dD (.dT [])) := Evl.Ex.new hdD
  have dRS : dR ≠ dS := fun z => by rw [z] at hdR; rw [hdR] at ndS6; cases ndS6
  have dRD : dR ≠ dD := fun z => by rw [z, hdD] at hdR6; cases hdR6
  have dSD : dS ≠ dD := fun z => by rw [z, hdD] at hdS; cases hdS
  have e47 := (e5.trans e6).trans e7
  have nR0 : H dR = none := Evl.fresh_back e4' ndR5
  have nS0 : H dS = none := Evl.fresh_back (e4'.trans e5) ndS6
  have nD0 : H dD = none := Evl.fresh_back ((e4'.trans e5).trans e6) hdD
  have e3b : Ex H1 H3 := e2.trans e3
  obtain ⟨ea, exs, rfl, hea, hexs⟩ := hev
  have hea7 : (upd H6 dD (.dT [])) ea = some (.tup exs) := e47 _ _ (kt4 _ _ (e3b _ _ hea))
  have hl7 := e47 _ _ hl4
  have lenE : exs.length = (as.map V.int).length := by rw [hexs.len, List.length_map, List.length_map, L4.len, claims_eq, List.length_map]
  have zc : (claimL g.B R).length ≤ 20 := by
    unfold claimL
    rw [parts_len]
    have := Nat.mul_le_mul hR.len hB.M
    have := hB.n
    omega
  refine ⟨fun σ' H' => ∃ (s5 s6 s10 s11 : Option V) (kvD kvS : List (List L2.Key × V)), σ' = [some vb, some vr, some (.ref ea), some (.ref g.nw), some (.ref lf), s5, s6, some (.ref dR), some (.ref dS), some (.ref dD), s10, s11, none, none, none, none] ∧ Ex H H' ∧ H' dR = some (.dT ((relC g.B).map fun c => (keyC c, .int (f' (.rel c.1 c.2))))) ∧
    H' dD = some (.dT kvD) ∧ (∀ c, valV kvD (keyC c) = (fD g.B R as (claimL g.B R).length c).map V.int) ∧ H' dS = some (.dT kvS) ∧ ∀ c, valV kvS (keyC c) = (fS g.B R as f' (claimL g.B R).length c).map V.int, ?_, ?_⟩
  · refine ⟨_, rfl, _, rfl, ea, lf, exs, as.map V.int, rfl, SqT.of hea7, SqL.of hl7, lenE, ?_⟩
    refine for_it (walk_pr (n := exs.length) (G := fun H => SqT K H ea exs ∧ SqL K H lf (as.map V.int)) (f := fun i => exs[i]?) (g := fun i => (as.map V.int)[i]?)) (fun k σ' H' => ∃ (s10 s11 : Option V) (kvD kvS : List (List L2.Key × V)), σ' = [some vb, some vr, some (.ref ea), some (.ref g.nw), some (.ref lf), s5, s6, some (.ref dR), some (.ref dS), some (.ref dD), s10, s11, none, none, none, none] ∧ Ex H H' ∧ KeepT (upd H6 dD (.dT [])) H' ∧ H' lf = some (.lst (as.map V.int)) ∧ H' dR = some (.dT ((relC g.B).map fun c => (keyC c, .int (f' (.rel c.1 c.2))))) ∧
      H' dD = some (.dT kvD) ∧ kvD.length ≤ k ∧ (∀ c, valV kvD (keyC c) = (fD g.B R as k c).map V.int) ∧ H' dS = some (.dT kvS) ∧ kvS.length ≤ 16 + k ∧ ∀ c, valV kvS (keyC c) = (fS g.B R as f' k c).map V.int)
      ⟨none, none, [], _, rfl, e4'.trans e47, fun _ _ z => z, hl7, e7 _ _ hdR6, upd_same, Nat.le_refl _, fun c => ?_, e7 _ _ hdS, by rw [List.length_map]; exact sN, fun c => ?_⟩ (fun k σ' H' _ ⟨_, _, _, _, _, _, kt, hl, _⟩ => ⟨SqT.of (kt _ _ hea7), SqL.of hl⟩) ?_ ?_
    · unfold fD
      rw [List.take_zero, if_neg (by simp)]
      rfl
    · unfold fS
      by_cases h : c ∈ stoC g.B
      · rw [if_pos h, valV_yes h]
        rfl
      · rw [if_neg h, valV_no h, if_neg (by simp)]
        rfl
    · rintro k x σ' H8 H9 hk ⟨s10, s11, kvD, kvS, rfl, e8, kt8, hl8, hR8, hD8, lD, vD, hS8, lS, vS⟩ ⟨T1, x1, y1, rfl, hT, rfl, ex, ey⟩
      obtain ⟨c, hc⟩ : ∃ c, (claimL g.B R)[k]? = some c := by
        rw [hexs.len, List.length_map] at hk
        exact ⟨_, List.getElem?_eq_getElem hk⟩
      obtain ⟨v, hv, hcd⟩ := hexs.get (i := k) (d := claimD c) (by rw [List.getElem?_map, hc]; rfl)
      have ex : exs[k]? = some x1 := ex
      rw [hv] at ex
      cases ex
      have ey : (as.map V.int)[k]? = some y1 := ey
      rw [List.getElem?_map] at ey
      obtain ⟨z, hz, rfl⟩ := Option.map_eq_some_iff.mp ey
      have e9 : Ex H8 (upd H8 T1 (.tup [x1, .int z])) := Evl.Ex.new hT
      have kt9 : KeepT (upd H6 dD (.dT [])) (upd H8 T1 (.tup [x1, .int z])) := KeepT.trans kt8 (KeepT.of e9)
      have hcd9 : Dq (upd H8 T1 (.tup [x1, .int z])) (claimD c) x1 := Dq.keepT (KeepT.trans kt4 (KeepT.trans (KeepT.of e47) kt9)) (by cases c <;> rfl) (hcd.mono e3b)
      have tk : (claimL g.B R).take (k + 1) = (claimL g.B R).take k ++ [c] := by rw [List.take_succ, hc]; rfl
      have hat := claimL_at hB.M0 hc
      have k20 : k < 20 := by have := (List.getElem?_eq_some_iff.mp hc).1; omega
      refine ⟨T1, _, rfl, SqT.of upd_same, rfl, x1, _, rfl, .int z, _, rfl, rfl, ?_⟩
      have env9 : ∀ {H' : Hp}, Ex (upd H8 T1 (.tup [x1, .int z])) H' → EnvOk H' H' H' [some vb, some vr, some (.ref ea), some (.ref g.nw), some (.ref lf), s5, s6, some (.ref dR), some (.ref dS), some (.ref dD), some x1, some (.int z), none, none, none, none] [.dat (basinD g.B), .dat (rightsD R), .any, .any, .any, .any, .any, .any, .any, .any, .dat (claimD c), .any, .any, .any, .any, .any] := fun e' =>
        env0 ((e8.trans e9).trans e') ⟨trivial, trivial, trivial, trivial, trivial, trivial, trivial, trivial, ⟨_, rfl, hcd9.mono e'⟩, trivial, trivial, trivial, trivial, trivial, trivial⟩
      have zat : as.getD k 0 = z := by rw [List.getD_eq_getElem?_getD, hz]; rfl
      have kput : ∀ {H' : Hp} {dX : Addr} {kv : List (List L2.Key × V)}, H' dX = some (.dT kv) → ∀ kv', KeepT H' (upd H' dX (.dT kv')) := fun h kv' b ys hb => by
        rw [upd_ne (fun q => by subst q; rw [h] at hb; cases hb)]
        exact hb
      cases c with
      | right r m =>
        have hat : k = r * g.B.M + m := hat
        dsimp only
        refine if_at (env9 .rfl') (b := true) (by exact et_is (by walk_at "ed"; exact rd_eqD (by decide +kernel) (by decide +kernel)) (by decide +kernel)) (fun _ H10 e10 => ?_) (fun z => by cases z)
        refine ⟨_, rfl, _, rfl, ?_⟩
        refine ed_at (env9 e10) (d := .tuple [.int ((r, m).1 : Nat), .int ((r, m).2 : Nat)]) (by walk_at "ed") _ fun kv H11 e11 hkv => ?_
        obtain ⟨q0, rfl, hq0⟩ := keyC_of (c := (r, m)) hkv
        have e811 := (e9.trans e10).trans e11
        have hD11 := e811 _ _ hD8
        refine ⟨dD, _, rfl, DPut.t (k := keyC (r, m)) hD11 hq0 (Nat.lt_of_lt_of_le (by omega : kvD.length < 1000) (by decide)), ?_⟩
        refine ⟨_, _, _, kvS, rfl, Evl.Ex.mut (e8.trans e811) nD0, KeepT.trans (KeepT.trans kt8 (KeepT.of e811)) (kput hD11 _), ?_, ?_, upd_same, ?_, fun c' => ?_, ?_, by omega, fun c' => ?_⟩
        · rw [upd_ne (fun z => by have h1 := e811 _ _ hl8; rw [z, hD11] at h1; cases h1)]
          exact e811 _ _ hl8
        · rw [upd_ne dRD]
          exact e811 _ _ hR8
        · have := length_putK kvD (keyC (r, m)) (.int z)
          omega
        · rw [valV_put]
          by_cases h : c' = (r, m)
          · subst h
            rw [if_pos rfl]
            unfold fD dOf
            rw [tk, if_pos (List.mem_append_right _ (List.mem_singleton.mpr rfl)), ← hat, zat]
            rfl
          · rw [if_neg (fun z => h (keyC_inj z)), vD c']
            unfold fD
            have : (Claim.right c'.1 c'.2 ∈ (claimL g.B R).take (k + 1)) ↔ (Claim.right c'.1 c'.2 ∈ (claimL g.B R).take k) := by
              rw [tk, List.mem_append, List.mem_singleton]
              exact ⟨fun z => z.elim id fun z => absurd (by injection z with a b; exact Prod.ext a b) h, .inl⟩
            simp only [this]
        · rw [upd_ne dSD]
          exact e811 _ _ hS8
        · rw [vS c']
          unfold fS
          have : (Claim.room c'.1 ∈ (claimL g.B R).take (k + 1)) ↔ (Claim.room c'.1 ∈ (claimL g.B R).take k) := by
            rw [tk, List.mem_append, List.mem_singleton]
            exact ⟨fun z => z.elim id fun z => (by cases z), .inl⟩
          simp only [this]
      | room s =>
        have hat : k = R.length * g.B.M + s := hat
        dsimp only
        refine if_at (env9 .rfl') (b := false) (by exact et_is (by walk_at "ed"; exact rd_eqD (by decide +kernel) (by decide +kernel)) (by decide +kernel)) (fun z => by cases z) (fun _ H10 e10 => ?_)
        refine ⟨_, rfl, _, rfl, ?_⟩
        have hM0 := hB.M0
        refine ed_at (te := tTup (tCons (tOp (rIxT K) (tVar 10) (tC (.int 1))) (tCons (tOp (rI0 fun i j => V.int (i - j)) (tOp (rIxT K) (tVar 0) (tC (.int 0))) (tC (.int 1))) tNil))) (env9 e10) (d := .tuple [.int ((s, g.B.M - 1).1 : Nat), .int ((s, g.B.M - 1).2 : Nat)]) (by
          refine ed_is (d := .tuple [natD s, .int ((g.B.M : Int) - 1)]) (by walk_at "ed") ?_
          rw [show ((g.B.M : Int) - 1) = ((g.B.M - 1 : Nat) : Int) by omega]
          rfl) _ fun kv H11 e11 hkv => ?_
        obtain ⟨q0, rfl, hq0⟩ := keyC_of (c := (s, g.B.M - 1)) hkv
        have e811 := (e9.trans e10).trans e11
        have hS11 := e811 _ _ hS8
        refine ⟨dS, _, rfl, DPut.t (k := keyC (s, g.B.M - 1)) hS11 hq0 (Nat.lt_of_lt_of_le (by omega : kvS.length < 1000) (by decide)), ?_⟩
        refine ⟨_, _, kvD, _, rfl, Evl.Ex.mut (e8.trans e811) nS0, KeepT.trans (KeepT.trans kt8 (KeepT.of e811)) (kput hS11 _), ?_, ?_, ?_, by omega, fun c' => ?_, upd_same, ?_, fun c' => ?_⟩
        · rw [upd_ne (fun z => by have h1 := e811 _ _ hl8; rw [z, hS11] at h1; cases h1)]
          exact e811 _ _ hl8
        · rw [upd_ne dRS]
          exact e811 _ _ hR8
        · rw [upd_ne dSD.symm]
          exact e811 _ _ hD8
        · rw [vD c']
          unfold fD
          have : (Claim.right c'.1 c'.2 ∈ (claimL g.B R).take (k + 1)) ↔ (Claim.right c'.1 c'.2 ∈ (claimL g.B R).take k) := by
            rw [tk, List.mem_append, List.mem_singleton]
            exact ⟨fun z => z.elim id fun z => (by cases z), .inl⟩
          simp only [this]
        · have := length_putK kvS (keyC (s, g.B.M - 1)) (.int z)
          omega
        · have hns : ¬ (s, g.B.M - 1) ∈ stoC g.B := fun z => by
            have h1 := of_decide_eq_true (List.mem_filter.mp z).2
            have h1 : g.B.M - 1 + 1 < g.B.M := h1
            omega
          rw [valV_put]
          by_cases h : c' = (s, g.B.M - 1)
          · subst h
            rw [if_pos rfl]
            unfold fS lastOf
            rw [if_neg hns, tk, if_pos ⟨rfl, List.mem_append_right _ (List.mem_singleton.mpr rfl)⟩, ← hat, zat]
            rfl
          · rw [if_neg (fun z => h (keyC_inj z)), vS c']
            unfold fS
            have : (c'.2 = g.B.M - 1 ∧ Claim.room c'.1 ∈ (claimL g.B R).take (k + 1)) ↔ (c'.2 = g.B.M - 1 ∧ Claim.room c'.1 ∈ (claimL g.B R).take k) := by
              rw [tk, List.mem_append, List.mem_singleton]
              exact ⟨fun z => ⟨z.1, z.2.elim id fun z2 => absurd (by injection z2 with a; exact Prod.ext a z.1) h⟩, fun z => ⟨z.1, .inl z.2⟩⟩
            simp only [this]
    · rintro σ' H8 ⟨s10, s11, kvD, kvS, rfl, e8, kt8, hl8, hR8, hD8, lD, vD, hS8, lS, vS⟩
      rw [hexs.len, List.length_map] at vD vS
      exact ⟨s5, s6, s10, s11, kvD, kvS, rfl, e8, hR8, hD8, vD, hS8, vS⟩
  · rintro σ' H8 ⟨s5, s6, s10, s11, kvD, kvS, rfl, e8, hR8, hD8, vD, hS8, vS⟩
    -- got
    have env8 : EnvOk H8 H8 H8 [some vb, some vr, some (.ref ea), some (.ref g.nw), some (.ref lf), s5, s6, some (.ref dR), some (.ref dS), some (.ref dD), s10, s11, none, none, none, none] [.dat (basinD g.B), .dat (rightsD R), .any, .any, .any, .any, .any, .any, .any, .dct (fD g.B R as (claimL g.B R).length), .any, .any, .any, .any, .any, .any] :=
      env0 e8 ⟨trivial, trivial, trivial, trivial, trivial, trivial, trivial, ⟨_, rfl, dD, kvD, rfl, hD8, vD⟩, trivial, trivial, trivial, trivial, trivial, trivial, trivial⟩
    have hl := hR.len
    refine asg_at env8 (d := rowsD R.length g.B.M (dOf g.B as)) (by
      refine ed_tupL (el_ed (ed_lc1 (fun r => .tuple ((List.range g.B.M).map fun m => .int (dOf g.B as r m))) (EdI.weak (ei_rng1 (n := R.length) (ea_cons (ed_lenR (by walk_at "ed")) ea_nil) (by omega))) (by simp; omega) ?_))
      intro i r hr
      obtain ⟨rfl, hr⟩ := rng_at hr
      refine ⟨_, by walk_at "gd", ed_tupL (el_ed (ed_lc1 (fun m => .int (dOf g.B as r m)) (EdI.weak (ei_rng1 (n := g.B.M) (by walk_at "ed") (by omega))) (by simp; omega) ?_))⟩
      intro j m hm
      obtain ⟨rfl, hm⟩ := rng_at hm
      refine ⟨_, by walk_at "gd", ed_dget (c := (r, m)) rfl (by walk_at "ed") ?_⟩
      unfold fD
      rw [List.take_length, if_pos (claimL_right hr hm)]) fun gv H9 e9 hgv => ?_
    have dctR : DctOk H9 (fun c => if c ∈ relC g.B then some (f' (.rel c.1 c.2)) else none) (.ref dR) := ⟨dR, _, rfl, e9 _ _ hR8, fun c => by
      dsimp only
      by_cases h : c ∈ relC g.B
      · rw [if_pos h, valV_yes h]
        rfl
      · rw [if_neg h, valV_no h]
        rfl⟩
    refine ⟨_, rfl, _, rfl, _, rfl, H9, g.B, _, vb, .ref dR, .rfl', hB, hb.mono (e8.trans e9), dctR, rfl, fun rv H0' H10 l10 hrv => ?_⟩
    refine ⟨_, rfl, _, rfl, H10, g.B, _, vb, .ref dS, .rfl', hB, hb.mono ((e8.trans e9).trans l10.t), ⟨dS, kvS, rfl, l10.t _ _ (e9 _ _ hS8), vS⟩, rfl, fun sv H0'' H11 l11 hsv => ?_⟩
    refine ⟨by show 3 ≤ sizeLine; decide, fun p hp => ?_⟩
    have e12 : Ex H11 (upd H11 p (.tup [gv, rv, sv])) := Evl.Ex.new hp
    refine q as f' (.ref p) _ L4 (((e8.trans e9).trans (l10.t.trans l11.t)).trans e12) ⟨p, _, rfl, upd_same, ((hgv.mono l10.t).mono l11.t).mono e12, ?_, ?_, trivial⟩
    · have h1 := ((hrv.mono l10.w).mono l11.t).mono e12
      rw [rowsD_congr (g' := relOf g.B f') fun s m hs hm => ?_] at h1
      · exact h1
      · unfold relOf
        by_cases h : (g.B.letTo s m).isSome = true
        · rw [if_pos h, if_pos ((in_relC hs hm).mpr h)]
          rfl
        · rw [if_neg h, if_neg fun z => h ((in_relC hs hm).mp z)]
          rfl
    · have h1 := (hsv.mono l11.w).mono e12
      rw [rowsD_congr (g' := stoOf g.B R as f') fun s m hs hm => ?_] at h1
      · exact h1
      · unfold stoOf fS
        by_cases h : m + 1 < g.B.M
        · rw [if_pos h, if_pos ((in_stoC hs hm).mpr h)]
          rfl
        · rw [if_neg h, if_neg fun z => h ((in_stoC hs hm).mp z), List.take_length, if_pos ⟨by show m = g.B.M - 1; omega, claimL_room hs⟩]
          rfl
end HW
end
section
/-! HWN8: seasons. -/
namespace HW
open PySem PySem.Spec PyProof.Rows L2
local macro_rules | `(tactic| walk_at "ed") => `(tactic| repeat' (first
  | exact ed_int | exact ed_str | exact ed_bl | exact ed_non | exact ea_nil | exact eo_none
  | exact ed_var rfl
  | with_reducible apply ea_cons
  | with_reducible apply ed_op
  | with_reducible apply ed_un
  | with_reducible apply ed_tupT
  | with_reducible apply ed_lstT
  | with_reducible apply et_test
  | with_reducible apply et_B
  | with_reducible apply et_andC
  | with_reducible apply et_orC
  | with_reducible apply et_not
  | with_reducible apply eo_some
  | with_reducible apply ed_callT
  | exact rd_add | exact rd_sub | exact rd_lt | exact rd_le | exact rd_gt | exact rd_ge | exact rd_isN | exact rd_notN | exact ru_neg
  | exact rd_ixT rfl
  | exact rd_ixT (at_rng (by assumption))
  | exact rd_ixT (at_ints (by assumption))
  | exact rd_ixT (at_pred (by assumption))
  | (show List.length _ = _; exact rfl)
  | (show List.length _ ≤ 100000; exact Nat.le_of_ble_eq_true rfl)
  | apply ed_tupT))
local macro_rules | `(tactic| walk_at "gd") => `(tactic| repeat' (first | exact gd_name (by decide) | exact gs_nil | with_reducible apply gs_cons | refine' gd_tup ?_ rfl))
variable {P : Program} {w : World} {K : PySem.W.Frag} {mg : Str → Option Value} {base : Heap} {CA CN CS : Addr}
def seaF (vb vr : V) (lc ll : Addr) : List (Str × V) := [("basin", vb), ("rights", vr), ("closed", .ref lc), ("lines", .ref ll)]
section
variable {vb vr : V} {lc ll : Addr}
theorem sea_basin : (seaF vb vr lc ll).lookup ("basin" : Str) = some vb := lk_eq
theorem sea_rights : (seaF vb vr lc ll).lookup ("rights" : Str) = some vr := by
  unfold seaF
  rw [lk_ne (by decide +kernel), lk_eq]
theorem sea_closed : (seaF vb vr lc ll).lookup ("closed" : Str) = some (.ref lc) := by
  unfold seaF
  rw [lk_ne (by decide +kernel), lk_ne (by decide +kernel), lk_eq]
theorem sea_lines : (seaF vb vr lc ll).lookup ("lines" : Str) = some (.ref ll) := by
  unfold seaF
  rw [lk_ne (by decide +kernel), lk_ne (by decide +kernel), lk_ne (by decide +kernel), lk_eq]
theorem sea_no {a : Str} (h1 : (a == ("basin" : Str)) = false) (h2 : (a == ("rights" : Str)) = false) (h3 : (a == ("closed" : Str)) = false) (h4 : (a == ("lines" : Str)) = false) : (seaF vb vr lc ll).lookup a = none := by
  unfold seaF
  rw [lk_ne h1, lk_ne h2, lk_ne h3, lk_ne h4]
  rfl
end
structure SeasonAt (CS : Addr) (H : Hp) (s sx : Addr) (vb vr : V) (lc ll : Addr) (B : Basin) (R : List Right) (fs : List FRec) : Prop where
  obj : H s = some (.ins CS sx (seaF vb vr lc ll))
  bas : Dq H (basinD B) vb
  rts : Dq H (rightsD R) vr
  cl : ∃ vs, H lc = some (.lst vs) ∧ DqAll H (fs.map frecD) vs
  li : ∃ ts, H ll = some (.lst ts) ∧ ts.length = fs.length
  ne : lc ≠ ll
def spSeaI (CS : Addr) : Sp := fun vs H Q _ => ∃ (s sx : Addr) (vb vr : V) (B : Basin) (R : List Right), vs = [.ref s, vb, vr] ∧ H s = some (.ins CS sx []) ∧ Dq H (basinD B) vb ∧ Dq H (rightsD R) vr ∧
  ∀ (lc ll : Addr) (H' : Hp), H lc = none → H ll = none → SeasonAt CS H' s sx vb vr lc ll B R [] → (∀ b o, H b = some o → b ≠ s → H' b = some o) → Q .non H'
def spMonth (CS : Addr) : Sp := fun vs H Q _ => ∃ (s sx : Addr) (vb vr : V) (lc ll : Addr) (B : Basin) (R : List Right) (fs : List FRec), vs = [.ref s] ∧ SeasonAt CS H s sx vb vr lc ll B R fs ∧ Q (.int (fs.length : Nat)) H
def spRecords (CS : Addr) : Sp := fun vs H Q _ => ∃ (s sx : Addr) (vb vr : V) (lc ll : Addr) (B : Basin) (R : List Right) (fs : List FRec), vs = [.ref s] ∧ SeasonAt CS H s sx vb vr lc ll B R fs ∧ ∀ (v : V) (H' : Hp), Ex H H' → Dq H' (.tuple (fs.map frecD)) v → Q v H'
abbrev s_Season___init__ : Stmt := inClass (tp 51) 0
theorem sc_Season___init__ : FnScope ["self", "basin", "rights"] ["self", "basin", "rights"] (defScope s_Season___init__) := ⟨rfl, rfl, rfl, by decide +kernel, rfl, by decide +kernel, by decide +kernel⟩
theorem ok_Season___init__ {f : Addr} {fd : FuncData} (F : Fun K "__init__" "Season.__init__" s_Season___init__ f fd) (T : Txt K mg CA CN CS)
     : FnOk P w K mg base CX0 1 f fd ["self", "basin", "rights"] (spSeaI CS) := by
  refine F.ok sc_Season___init__ (fun vs H Q E h => ?_) (fun cdv A outer s H vs Q E hr h => ?_)
  · obtain ⟨_, _, _, _, _, _, rfl, _⟩ := h; rfl
  refine ⟨_, (pss_cons (ps_fld (pv 0) (pv 1) rfl)
 (pss_cons (ps_fld (pv 0) (pv 2) rfl)
 (pss_cons (ps_fld (pv 0) (pe_lst pa_nil) rfl)
 (pss_one (ps_fld (pv 0) (pe_lst pa_nil) rfl))))), ?_⟩
  obtain ⟨s', sx, vb, vr, B, R, rfl, hs, hb, hr', q⟩ := h
  refine ⟨_, rfl, _, rfl, s', CS, sx, [], rfl, hs, T.clS, T.s_basin, (by show 0 < 1000; decide), ?_⟩
  refine ⟨_, rfl, _, rfl, s', CS, sx, _, rfl, upd_same, T.clS, T.s_rights, (by show 1 < 1000; decide), ?_⟩
  have e1 : putF "rights" vr (putF "basin" vb []) = ([("basin", vb), ("rights", vr)] : List (Str × V)) := by rw [pf_nil, pf_ne (by decide +kernel), pf_nil]
  rw [e1]
  refine ⟨by decide, fun lc hlc => ?_⟩
  have slc : s' ≠ lc := ne_of_none upd_same hlc
  refine ⟨_, rfl, s', CS, sx, _, rfl, (by rw [upd_ne slc]; exact upd_same), T.clS, T.s_closed, (by show 2 < 1000; decide), ?_⟩
  have e2 : putF "closed" (.ref lc) ([("basin", vb), ("rights", vr)] : List (Str × V)) = ([("basin", vb), ("rights", vr), ("closed", .ref lc)] : List (Str × V)) := by rw [pf_ne (by decide +kernel), pf_ne (by decide +kernel), pf_nil]
  rw [e2]
  refine ⟨by decide, fun ll hll => ?_⟩
  have sll : s' ≠ ll := ne_of_none upd_same hll
  have lcl : lc ≠ ll := by
    refine ne_of_none (o := .lst []) ?_ hll
    rw [upd_ne slc.symm, upd_same]
  refine ⟨_, rfl, s', CS, sx, _, rfl, (by rw [upd_ne sll]; exact upd_same), T.clS, T.s_lines, (by show 3 < 1000; decide), ?_⟩
  have e3 : putF "lines" (.ref ll) ([("basin", vb), ("rights", vr), ("closed", .ref lc)] : List (Str × V)) = seaF vb vr lc ll := by
    rw [pf_ne (by decide +kernel), pf_ne (by decide +kernel), pf_ne (by decide +kernel), pf_nil]
    rfl
  rw [e3]
  have nlc : H lc = none := by
    rw [upd_ne slc.symm, upd_ne slc.symm] at hlc
    exact hlc
  have nll : H ll = none := by
    rw [upd_ne sll.symm, upd_ne lcl.symm, upd_ne sll.symm, upd_ne sll.symm] at hll
    exact hll
  have fr : ∀ b o, H b = some o → b ≠ s' → upd (upd (upd (upd (upd (upd H s' (.ins CS sx (putF "basin" vb []))) s' (.ins CS sx ([("basin", vb), ("rights", vr)] : List (Str × V)))) lc (.lst [])) s' (.ins CS sx ([("basin", vb), ("rights", vr), ("closed", .ref lc)] : List (Str × V)))) ll (.lst [])) s' (.ins CS sx (seaF vb vr lc ll)) b = some o := fun b o hb' hne => by
    rw [upd_ne hne, upd_ne (ne_of_none hb' nll), upd_ne hne, upd_ne (ne_of_none hb' nlc), upd_ne hne, upd_ne hne]
    exact hb'
  have kt : KeepT H _ := fun b xs hb' => fr b _ hb' fun z => by subst z; rw [hs] at hb'; cases hb'
  refine q lc ll _ nlc nll ⟨upd_same, Dq.keepT kt (imm_basin B) hb, Dq.keepT kt (imm_rights R) hr', ⟨[], ?_, trivial⟩, ⟨[], ?_, rfl⟩, lcl⟩ fr
  · rw [upd_ne slc.symm, upd_ne lcl, upd_ne slc.symm, upd_same]
  · rw [upd_ne sll.symm, upd_same]
abbrev s_Season_month : Stmt := inClass (tp 51) 2
theorem sc_Season_month : FnScope ["self"] ["self"] (defScope s_Season_month) := ⟨rfl, rfl, rfl, by decide +kernel, rfl, by decide +kernel, by decide +kernel⟩
theorem ok_Season_month {f : Addr} {fd : FuncData} (F : Fun K "month" "Season.month" s_Season_month f fd) (T : Txt K mg CA CN CS)
     : FnOk P w K mg base CX0 1 f fd ["self"] (spMonth CS) := by
  refine F.ok sc_Season_month (fun vs H Q E h => ?_) (fun cdv A outer s H vs Q E hr h => ?_)
  · obtain ⟨_, _, _, _, _, _, _, _, _, rfl, _⟩ := h; rfl
  refine ⟨_, (pss_one (ps_ret (pe_callB (call_lenK (K := K) rfl) rfl T.b_len PySem.boot_len (pa_cons (pe_fldK (K := K) rfl (pv 0) rfl) pa_nil)))), ?_⟩
  obtain ⟨s', sx, vb, vr, lc, ll, B, R, fs, rfl, S, q⟩ := h
  obtain ⟨vs, hvs, hds⟩ := S.cl
  refine ⟨_, rfl, s', CS, sx, _, _, rfl, S.obj, T.clS, T.s_closed, sea_closed, _, vs.length, rfl, .inl ⟨vs, SqL.of hvs, rfl⟩, ?_⟩
  rw [hds.len, List.length_map]
  exact q
abbrev s_Season_records : Stmt := inClass (tp 51) 5
theorem sc_Season_records : FnScope ["self"] ["self"] (defScope s_Season_records) := ⟨rfl, rfl, rfl, by decide +kernel, rfl, by decide +kernel, by decide +kernel⟩
theorem ok_Season_records {f : Addr} {fd : FuncData} (F : Fun K "records" "Season.records" s_Season_records f fd) (T : Txt K mg CA CN CS)
     : FnOk P w K mg base CX0 1 f fd ["self"] (spRecords CS) := by
  refine F.ok sc_Season_records (fun vs H Q E h => ?_) (fun cdv A outer s H vs Q E hr h => ?_)
  · obtain ⟨_, _, _, _, _, _, _, _, _, rfl, _⟩ := h; rfl
  refine ⟨_, (pss_one (ps_ret (pe_callTy (call_tupK (K := K) rfl) rfl T.b_tuple (by decide +kernel) (pa_cons (pe_fldK (K := K) rfl (pv 0) rfl) pa_nil)))), ?_⟩
  obtain ⟨s', sx, vb, vr, lc, ll, B, R, fs, rfl, S, q⟩ := h
  obtain ⟨vs, hvs, hds⟩ := S.cl
  refine ⟨_, rfl, s', CS, sx, _, _, rfl, S.obj, T.clS, T.s_closed, sea_closed, lc, vs, rfl, .inl ⟨SqL.of hvs, fun p hp => ?_⟩⟩
  have e : Ex H (upd H p (.tup vs)) := Evl.Ex.new hp
  exact q _ _ e ⟨p, vs, rfl, upd_same, hds.mono e⟩
theorem SeasonAt.ex {H H' : Hp} {s sx : Addr} {vb vr : V} {lc ll : Addr} {B : Basin} {R : List Right} {fs : List FRec} (S : SeasonAt CS H s sx vb vr lc ll B R fs) (e : Ex H H') : SeasonAt CS H' s sx vb vr lc ll B R fs := by
  obtain ⟨vs, h1, h2⟩ := S.cl
  obtain ⟨ts, h3, h4⟩ := S.li
  exact ⟨e _ _ S.obj, S.bas.mono e, S.rts.mono e, ⟨vs, e _ _ h1, h2.mono e⟩, ⟨ts, e _ _ h3, h4⟩, S.ne⟩
def spClose (CS : Addr) : Sp := fun vs H Q _ => ∃ (s sx : Addr) (vb vr : V) (lc ll : Addr) (B : Basin) (R : List Right) (fs : List FRec) (vi : V) (xs : List Int), vs = [.ref s, vi] ∧ SeasonAt CS H s sx vb vr lc ll B R fs ∧ Bas B ∧ Rts B R ∧ FsOk B R fs ∧ RecsOk B (recsOf fs) ∧ fs.length < B.M ∧
  Dq H (intsD xs) vi ∧ xs.length = B.n ∧ (∀ x ∈ xs, 0 ≤ x ∧ x ≤ 99) ∧ ∀ (as : List Int) (f : AId → Int) (sp : List Int) (v : V) (H' : Hp),
    Led (restB B (recsOf fs) fun s => xs.getD s 0).net .src (claims (restB B (recsOf fs) fun s => xs.getD s 0) (restR R (recsOf fs).length)) as f → SeasonAt CS H' s sx vb vr lc ll B R (fs ++ [⟨xs, mkRec (restB B (recsOf fs) fun s => xs.getD s 0) (restR R (recsOf fs).length) as f, sp⟩]) → KeepT H H' →
    (∀ b o, H b = some o → b ≠ lc → b ≠ ll → H' b = some o) → Q v H'
abbrev s_Season_close : Stmt := inClass (tp 51) 1
theorem sc_Season_close : FnScope ["self", "inflows", "rest", "rights", "plan", "deliveries", "releases", "storages", "found"] ["self", "inflows"] (defScope s_Season_close) := ⟨rfl, rfl, rfl, by decide +kernel, rfl, by decide +kernel, by decide +kernel⟩
theorem ok_Season_close {f : Addr} {fd : FuncData} (F : Fun K "close" "Season.close" s_Season_close f fd) (T : Txt K mg CA CN CS)
    (G_are_inflows : FnF P w K mg base 1 "are_inflows" ["basin", "inflows"] (spD 2 d_are_inflows))
    (G_firsts : FnF P w K mg base 1 "firsts" ["rows"] (spD 1 d_firsts))
    (G_numbers_text : FnF P w K mg base 1 "numbers_text" ["numbers"] (spD 1 d_numbers_text))
    (G_operation : FnF P w K mg base 7 "operation" ["basin", "rights"] spOperation)
    (G_rest_of : FnF P w K mg base 4 "rest_of" ["basin", "records", "inflows"] (spD 3 d_rest_of))
    (G_rest_rights : FnF P w K mg base 1 "rest_rights" ["rights", "begun"] (spD 2 d_rest_rights))
    (G_spills : FnF P w K mg base 9 "spills" ["basin", "rights", "plan"] (spD 3 d_spills))
    (M_Season_month : MtF P w K mg base CS 1 "month" ["self"] (spMonth CS)) : FnOk P w K mg base CX0 10 f fd ["self", "inflows"] (spClose CS) := by
  refine F.ok sc_Season_close (fun vs H Q E h => ?_) (fun cdv A outer s H vs Q E hr h => ?_)
  · obtain ⟨_, _, _, _, _, _, _, _, _, _, _, rfl, _⟩ := h; rfl
  refine ⟨_, (pss_cons (ps_if (pt_not (pt_val (pe_fn G_are_inflows (hr.mono (by decide)) rfl (pa_cons (pe_fldK (K := K) rfl (pv 0) rfl) (pa_cons (pv 1) pa_nil)))))
  (pss_one ps_never)
  pss_nil)
 (pss_cons (ps_if (pt_cmpR (op_eqK (K := K) rfl hr.units) (pe_mt0 M_Season_month T.clS (hr.mono (by decide)) (pv 0)) (pe_ix (ix_tupK (K := K) rfl) (pe_fldK (K := K) rfl (pv 0) rfl) pe_int (fun _ _ => rfl)) (nomark _))
  (pss_one ps_never)
  pss_nil)
 (pss_cons (ps_set (i := 2) sc_Season_close.nd rfl (Or.inl rfl) (pe_fn G_rest_of (hr.mono (by decide)) rfl (pa_cons (pe_fldK (K := K) rfl (pv 0) rfl) (pa_cons (pe_fldK (K := K) rfl (pv 0) rfl) (pa_cons (pv 1) pa_nil)))))
 (pss_cons (ps_set (i := 3) sc_Season_close.nd rfl (Or.inl rfl) (pe_fn G_rest_rights (hr.mono (by decide)) rfl (pa_cons (pe_fldK (K := K) rfl (pv 0) rfl) (pa_cons (pe_mt0 M_Season_month T.clS (hr.mono (by decide)) (pv 0)) pa_nil))))
 (pss_cons (ps_set (i := 4) sc_Season_close.nd rfl (Or.inl rfl) (pe_fn G_operation (hr.mono (by decide)) rfl (pa_cons (pv 2) (pa_cons (pv 3) pa_nil))))
 (pss_cons (ps_asg (pv 4) (pg_tupK (n := 3) (K := K) rfl rfl (pgs_cons (pg_name (i := 5) sc_Season_close.nd rfl (Or.inl rfl)) (pgs_cons (pg_name (i := 6) sc_Season_close.nd rfl (Or.inl rfl)) (pgs_cons (pg_name (i := 7) sc_Season_close.nd rfl (Or.inl rfl)) pgs_nil)))))
 (pss_cons (ps_set (i := 8) sc_Season_close.nd rfl (Or.inl rfl) (pe_tup (pa_cons (pe_fn G_firsts (hr.mono (by decide)) rfl (pa_cons (pv 5) pa_nil)) (pa_cons (pe_fn G_firsts (hr.mono (by decide)) rfl (pa_cons (pv 6) pa_nil)) (pa_cons (pe_fn G_firsts (hr.mono (by decide)) rfl (pa_cons (pv 7) pa_nil)) (pa_cons (pe_fn G_firsts (hr.mono (by decide)) rfl (pa_cons (pe_fn G_spills (hr.mono (by decide)) rfl (pa_cons (pv 2) (pa_cons (pv 3) (pa_cons (pv 4) pa_nil)))) pa_nil)) pa_nil))))))
 (pss_cons (ps_expr (pe_bm PySem.F.plainAttrs_list PySem.F.slot_list_append PySem.F.type_list_append mt_append (pe_fldK (K := K) rfl (pv 0) rfl) (pa_cons (pe_op (op_catTK (K := K) rfl) (pe_tup (pa_cons (pv 1) pa_nil)) (pv 8)) pa_nil)))
 (pss_cons (ps_expr (pe_bm PySem.F.plainAttrs_list PySem.F.slot_list_append PySem.F.type_list_append mt_append (pe_fldK (K := K) rfl (pv 0) rfl) (pa_cons (pe_op op_add_str pe_str (pe_fn G_numbers_text (hr.mono (by decide)) rfl (pa_cons (pv 1) pa_nil))) pa_nil)))
 (pss_one (ps_ret (pv 8)))))))))))), ?_⟩
  obtain ⟨s', sx, vb, vr, lc, ll, B, R, fs, vi, xs, rfl, S, hB, hR, hF, hRO, hlt, hvi, hxl, hx, q⟩ := h
  have hrl : (recsOf fs).length = fs.length := by unfold recsOf; simp
  have hn := hB.n
  let rB := restB B (recsOf fs) fun s => xs.getD s 0
  let rR := restR R (recsOf fs).length
  have hx0 : ∀ s, s < B.n → 0 ≤ xs.getD s 0 := fun s hs => by
    have h1 : xs[s]? = some xs[s] := List.getElem?_eq_getElem (by omega)
    rw [List.getD_eq_getElem?_getD, h1]
    exact (hx _ (List.getElem_mem _)).1
  have rBas : Bas rB := ⟨rest_ok hB.ok hRO hx0, by show (restB B _ _).n ≤ 4; rw [rest_n]; exact hB.n, by show 0 < B.M - _; omega, by show B.M - _ ≤ 4; have := hB.M; omega⟩
  have rRts : Rts rB rR := ⟨restR_ok hR.ok, by show (restR R _).length ≤ 4; rw [restR_len]; exact hR.len⟩
  -- if not are_inflows(self.basin, inflows)
  refine ⟨_, rfl, s', CS, sx, _, _, rfl, S.obj, T.clS, T.s_basin, sea_basin, _, rfl, H, [basinD B, intsD xs], .bool true, .rfl', ⟨S.bas, hvi, trivial⟩, rfl, ⟨B, xs, hB, hxl, hx, rfl, rfl⟩, fun v1 H01 H1 l1 hv1 => ?_⟩
  cases (show v1 = V.bl true from hv1)
  refine ⟨true, rfl, ifF rfl ?_⟩
  have S1 := S.ex l1.t
  -- if self.month() == self.basin[0]
  obtain ⟨ab, bxs, hab, hab1, hab2⟩ := id S1.bas
  obtain ⟨v0, hv0, hd0⟩ := atI_rel (i := 0) (d := natD B.M) hab2 rfl
  refine ⟨_, rfl, s', sx, _, rfl, S1.obj, sea_no (by decide +kernel) (by decide +kernel) (by decide +kernel) (by decide +kernel), s', sx, vb, vr, lc, ll, B, R, fs, rfl, S1, _, rfl, s', CS, sx, _, _, rfl, S1.obj, T.clS, T.s_basin, sea_basin, ab, bxs, 0, v0, hab, rfl, SqT.of hab1, hv0, natD fs.length, natD B.M, (show Dq H1 (natD fs.length) (.int (fs.length : Nat)) from rfl).dp, hd0.dp, rfl, rfl, _, rfl, ?_⟩
  rw [eqv_nat]
  refine ifF (decide_eq_false (by omega)) ?_
  -- rest = rest_of(..)
  obtain ⟨vs, hvs, hds⟩ := S1.cl
  refine ⟨_, rfl, s', CS, sx, _, _, rfl, S1.obj, T.clS, T.s_basin, sea_basin, _, rfl, s', CS, sx, _, _, rfl, S1.obj, T.clS, T.s_closed, sea_closed, _, rfl, H1, [basinD B, .list (fs.map frecD), intsD xs], basinD rB, .rfl', ⟨S1.bas, ⟨lc, vs, rfl, hvs, hds⟩, hvi.mono l1.t, trivial⟩, rfl, ⟨B, R, fs, xs, hB, hF, hlt, hxl, rfl, rfl⟩, fun v2 H02 H2 l2 hv2 => ?_⟩
  have S2 := S1.ex l2.t
  have hv2' := hv2.mono l2.w
  -- rights = rest_rights(self.rights, self.month())
  refine ⟨_, rfl, s', CS, sx, _, _, rfl, S2.obj, T.clS, T.s_rights, sea_rights, _, rfl, s', sx, _, rfl, S2.obj, sea_no (by decide +kernel) (by decide +kernel) (by decide +kernel) (by decide +kernel), s', sx, vb, vr, lc, ll, B, R, fs, rfl, S2, H2, [rightsD R, natD fs.length], rightsD rR, .rfl', ⟨S2.rts, rfl, trivial⟩, rfl, ⟨B, R, fs.length, hR, Nat.le_of_lt hlt, rfl, by show rightsD (restR R _) = _; rw [hrl]⟩, fun v3 H03 H3 l3 hv3 => ?_⟩
  have S3 := S2.ex l3.t
  have hv3' := hv3.mono l3.w
  -- plan = operation(rest, rights)
  refine ⟨_, rfl, _, rfl, rB, rR, v2, v3, rfl, rBas, rRts, hv2'.mono l3.t, hv3', fun as f v4 H4 L4 e4 hv4 => ?_⟩
  have S4 := S3.ex e4
  have e14 := (l2.t.trans l3.t).trans e4
  have e04 := l1.t.trans e14
  have hM0 : 0 < rB.M := rBas.M0
  have hrn : rB.n ≤ 4 := rBas.n
  have ok : ∀ m, m < rB.M → MonthOk rB rR (dOf rB as) (relOf rB f) (stoOf rB rR as f) m := fun m hm => led_ok rBas.ok rRts.ok hM0 L4 hm
  let spl : List Int := (List.range rB.n).map fun s => rB.recv (relOf rB f) (stoOf rB rR as f) s 0 - used rR (dOf rB as) (relOf rB f) (stoOf rB rR as f) s 0
  let fr : FRec := ⟨xs, mkRec rB rR as f, spl⟩
  -- deliveries, releases, storages = plan
  obtain ⟨p4, ys, rfl, hp4, hys⟩ := id hv4
  obtain ⟨d4, r4, s4, rfl, hd4, hr4, hs4⟩ := three hys
  refine ⟨_, rfl, p4, _, rfl, SqT.of hp4, rfl, d4, _, rfl, r4, _, rfl, s4, _, rfl, rfl, ?_⟩
  have env : ∀ {H' : Hp} {s8 : Option V} {r8 : Sv}, Ex H4 H' → SvOk H' H' H' s8 r8 → EnvOk H' H' H' [some (.ref s'), some vi, some v2, some v3, some (.ref p4), some d4, some r4, some s4, s8] [.any, .dat (intsD xs), .dat (basinD rB), .dat (rightsD rR), .dat (planD rB rR (dOf rB as) (relOf rB f) (stoOf rB rR as f)), .dat (rowsD rR.length rB.M (dOf rB as)), .dat (rowsD rB.n rB.M (relOf rB f)), .dat (rowsD rB.n rB.M (stoOf rB rR as f)), r8] := fun e h8 =>
    ⟨trivial, ⟨_, rfl, (hvi.mono e04).mono e⟩, ⟨_, rfl, ((hv2'.mono l3.t).mono e4).mono e⟩, ⟨_, rfl, (hv3'.mono e4).mono e⟩, ⟨_, rfl, hv4.mono e⟩, ⟨_, rfl, hd4.mono e⟩, ⟨_, rfl, hr4.mono e⟩, ⟨_, rfl, hs4.mono e⟩, h8, trivial⟩
  -- found = (..)
  dsimp only
  refine asg_at (env (r8 := .any) .rfl' trivial) (d := .tuple [intsD fr.r.d, intsD fr.r.rel, intsD fr.r.sto, intsD spl]) (by
    refine ed_tupT (ea_cons (ed_callT (ea_cons (ed_var rfl) ea_nil) rfl ⟨_, _, _, rRts.len, hM0, rfl, rfl⟩) (ea_cons (ed_callT (ea_cons (ed_var rfl) ea_nil) rfl ⟨_, _, _, hrn, hM0, rfl, rfl⟩) (ea_cons (ed_callT (ea_cons (ed_var rfl) ea_nil) rfl ⟨_, _, _, hrn, hM0, rfl, rfl⟩) (ea_cons (ed_callT (ea_cons (ed_callT (by walk_at "ed") rfl ⟨rB, rR, _, _, _, rBas, rRts, ok, rfl, rfl⟩) ea_nil) rfl ⟨_, _, _, hrn, hM0, rfl, rfl⟩) ea_nil)))) (Nat.le_of_ble_eq_true rfl)) fun v5 H5 e5 hv5 => ?_
  have S5 := S4.ex e5
  obtain ⟨vs5, hvs5, hds5⟩ := S5.cl
  obtain ⟨ts5, hts5, hlt5⟩ := S5.li
  -- self.closed.append((inflows,) + found)
  refine ⟨_, rfl, s', CS, sx, _, _, rfl, S5.obj, T.clS, T.s_closed, sea_closed, .inl ⟨rfl, vs5, SqL.of hvs5⟩, ?_⟩
  have e5' : Ex H H5 := e04.trans e5
  refine ed_at (te := tOp (rCatT K) (tTup (tCons (tVar 1) tNil)) (tVar 8)) (env (r8 := .dat (.tuple [intsD fr.r.d, intsD fr.r.rel, intsD fr.r.sto, intsD spl])) e5 ⟨_, rfl, hv5⟩) (d := frecD fr) (by exact ed_op (ed_tupT (ea_cons (ed_var rfl) ea_nil) (Nat.le_of_ble_eq_true rfl)) (ed_var rfl) (rd_catT (Nat.le_of_ble_eq_true rfl) (by intro h; cases h) (by intro h; cases h))) _ fun v6 H6 e6 hv6 => ?_
  have S6 := S5.ex e6
  have hvs6 := e6 _ _ hvs5
  have hts6 := e6 _ _ hts5
  have len5 : vs5.length ≤ 4 := by
    rw [hds5.len, List.length_map]
    have := hB.M
    omega
  refine ⟨lc, vs5, v6, rfl, rfl, hvs6, Nat.lt_of_lt_of_le (by omega : vs5.length < 1000) (by decide), ?_⟩
  have kt7 : KeepT H6 (upd H6 lc (.lst (vs5 ++ [v6]))) := fun b zs hb => by
    rw [upd_ne (fun z => by subst z; rw [hvs6] at hb; cases hb)]
    exact hb
  have s7 : upd H6 lc (.lst (vs5 ++ [v6])) s' = some (.ins CS sx (seaF vb vr lc ll)) := by
    rw [upd_ne (fun z => by have h1 := S6.obj; rw [z, hvs6] at h1; cases h1)]
    exact S6.obj
  have l7 : upd H6 lc (.lst (vs5 ++ [v6])) ll = some (.lst ts5) := by
    rw [upd_ne S.ne.symm]
    exact hts6
  have hvi7 : Dq (upd H6 lc (.lst (vs5 ++ [v6]))) (intsD xs) vi := Dq.keepT kt7 (imm_ints xs) ((hvi.mono e5').mono e6)
  -- self.lines.append('close ' + numbers_text(inflows))
  refine ⟨_, rfl, s', CS, sx, _, _, rfl, s7, T.clS, T.s_lines, sea_lines, .inl ⟨rfl, ts5, SqL.of l7⟩, ?_⟩
  have tl : ("close " : Str).length + (numText xs).length ≤ 100000 := by
    have h1 := num_sum hx
    have h2 : (numText xs).length = _ := PySem.size_glued (" " : Str) (xs.map fun x => Str.ofString (toString x))
    have h3 : (" " : Str).length = 1 := by decide
    have h4 : ("close " : Str).length = 6 := by decide
    rw [h2, h3, h4, List.length_map]
    omega
  have env7 : EnvOk (upd H6 lc (.lst (vs5 ++ [v6]))) (upd H6 lc (.lst (vs5 ++ [v6]))) (upd H6 lc (.lst (vs5 ++ [v6]))) [some (.ref s'), some vi, some v2, some v3, some (.ref p4), some d4, some r4, some s4, some v5] [.any, .dat (intsD xs), .any, .any, .any, .any, .any, .any, .any] := ⟨trivial, ⟨_, rfl, hvi7⟩, trivial, trivial, trivial, trivial, trivial, trivial, trivial, trivial⟩
  refine ed_at (te := tOp (fun x y H Q => ∃ i j, x = V.str i ∧ y = V.str j ∧ i.length + j.length ≤ sizeLine ∧ Q (V.str (i ++ j)) H) (tC (.str "close ")) (tCall (spD 1 d_numbers_text) [] E0 (tCons (tVar 1) tNil))) env7 (d := .str (("close " : Str) ++ numText xs)) (by exact ed_op ed_str (ed_callT (ea_cons (ed_var rfl) ea_nil) rfl ⟨xs, by omega, hx, rfl, rfl⟩) (rd_addS tl)) _ fun v8 H8 e8 hv8 => ?_
  have l8 := e8 _ _ l7
  refine ⟨ll, ts5, v8, rfl, rfl, l8, Nat.lt_of_lt_of_le (by have := hB.M; omega : ts5.length < 1000) (by decide), ?_⟩
  have kt9 : KeepT H8 (upd H8 ll (.lst (ts5 ++ [v8]))) := fun b zs hb => by
    rw [upd_ne (fun z => by subst z; rw [l8] at hb; cases hb)]
    exact hb
  have kt69 : KeepT H6 (upd H8 ll (.lst (ts5 ++ [v8]))) := KeepT.trans kt7 (KeepT.trans (KeepT.of e8) kt9)
  have immF : ∀ f : FRec, imm (frecD f) = true := fun f => by
    unfold frecD
    simp [imm, imm.immAll, imm_ints]
  have allK : ∀ {ds : List PyData} {us : List V}, imm.immAll ds = true → DqAll H6 ds us → DqAll (upd H8 ll (.lst (ts5 ++ [v8]))) ds us := fun i h => DqAll.keepT kt69 i h
  refine ⟨_, rfl, q as f spl v5 _ L4 ⟨?_, Dq.keepT kt69 (imm_basin B) S6.bas, Dq.keepT kt69 (imm_rights R) S6.rts, ⟨vs5 ++ [v6], ?_, ?_⟩, ⟨ts5 ++ [v8], upd_same, ?_⟩, S.ne⟩ (KeepT.trans (KeepT.of (e5'.trans e6)) kt69) fun b o hb h1 h2 => ?_⟩
  · rw [upd_ne (fun z => by have h1 := e8 _ _ s7; rw [z, l8] at h1; cases h1)]
    exact e8 _ _ s7
  · rw [upd_ne S.ne]
    exact e8 _ _ upd_same
  · rw [List.map_append]
    exact DqAll.snoc (Dq.keepT kt69 (immF fr) hv6) (allK (immAll_map immF) ((hds5.mono e6)))
  · rw [List.length_append, List.length_append, hlt5]
    rfl
  · rw [upd_ne h2]
    refine e8 _ _ ?_
    rw [upd_ne h1]
    exact e6 _ _ (e5' _ _ hb)
end HW
end
section
/-! HWN9: a law's months closed. -/
namespace HW
open PySem PySem.Spec PyProof.Rows L2
local macro_rules | `(tactic| walk_at "ed") => `(tactic| repeat' (first
  | exact ed_int | exact ed_str | exact ed_bl | exact ed_non | exact ea_nil | exact eo_none
  | exact ed_var rfl
  | with_reducible apply ea_cons
  | with_reducible apply ed_op
  | with_reducible apply ed_un
  | with_reducible apply ed_tupT
  | with_reducible apply ed_lstT
  | with_reducible apply et_test
  | with_reducible apply et_B
  | with_reducible apply et_andC
  | with_reducible apply et_orC
  | with_reducible apply et_not
  | with_reducible apply eo_some
  | with_reducible apply ed_callT
  | exact rd_add | exact rd_sub | exact rd_lt | exact rd_le | exact rd_gt | exact rd_ge | exact rd_isN | exact rd_notN | exact ru_neg
  | exact rd_ixT rfl
  | exact rd_ixT (at_rng (by assumption))
  | exact rd_ixT (at_ints (by assumption))
  | exact rd_ixT (at_pred (by assumption))
  | (show List.length _ = _; exact rfl)
  | (show List.length _ ≤ 100000; exact Nat.le_of_ble_eq_true rfl)
  | apply ed_tupT))
local macro_rules | `(tactic| walk_at "gd") => `(tactic| repeat' (first | exact gd_name (by decide) | exact gs_nil | with_reducible apply gs_cons | refine' gd_tup ?_ rfl))
variable {P : Program} {w : World} {K : PySem.W.Frag} {mg : Str → Option Value} {base : Heap} {CA CN CS : Addr}
/-- a def from data to some data; what stood stays -/
def spC (n : Nat) (f : List PyData → (PyData → Prop) → Prop) : Sp := fun vs H Q _ => ∃ ds R, DqAll H ds vs ∧ ds.length = n ∧ f ds R ∧ ∀ d v H', R d → Ex H H' → Dq H' d v → Q v H'
theorem spC_len {f : List PyData → (PyData → Prop) → Prop} {ps : List Str} {vs : List V} {H : Hp} {Q : VK} {E : XK} (h : spC ps.length f vs H Q E) : vs.length = ps.length := by
  obtain ⟨ds, R, hv, hn, hf, q⟩ := h
  rw [hv.len]
  exact hn
structure RowsOk (B : Basin) (rows : List (List Int)) : Prop where
  len : rows.length = B.M
  wid : ∀ r ∈ rows, r.length = B.n
  rng : ∀ r ∈ rows, ∀ x ∈ r, 0 ≤ x ∧ x ≤ 99
def rowX (rows : List (List Int)) (m s : Nat) : Int := (rows.getD m []).getD s 0
theorem RowsOk.x0 {B : Basin} {rows : List (List Int)} (h : RowsOk B rows) (m s : Nat) (hm : m < B.M) (hs : s < B.n) : 0 ≤ rowX rows m s := by
  unfold rowX
  have h1 : rows[m]? = some (rows[m]'(by rw [h.len]; exact hm)) := List.getElem?_eq_getElem _
  rw [List.getD_eq_getElem?_getD (l := rows), h1]
  have hm2 : rows[m]'(by rw [h.len]; exact hm) ∈ rows := List.getElem_mem _
  generalize rows[m]'(by rw [h.len]; exact hm) = r at hm2
  have hw := h.wid r hm2
  show 0 ≤ r.getD s 0
  have h2 : r[s]? = some (r[s]'(by omega)) := List.getElem?_eq_getElem _
  rw [List.getD_eq_getElem?_getD, h2]
  exact (h.rng r hm2 _ (List.getElem_mem _)).1
def planOf (B : Basin) (R : List Right) (recs : List Rec) : PyData := planD B R (recD recs) (recRel recs) (recSto recs)
def d__law_closed (ds : List PyData) (Q : PyData → Prop) : Prop := ∃ B R rows, Bas B ∧ Rts B R ∧ RowsOk B rows ∧ ds = [basinD B, rightsD R, .list (rows.map intsD)] ∧ Q = fun d => ∃ recs, Run B R (rowX rows) recs ∧ recs.length = B.M ∧ d = planOf B R recs
theorem forR_at {σ : Slots} {ρ : Rho} {H : Hp} {ta : TA} {n j : Nat} {tb u : TS} {D : Ends} (env : EnvOk H H H σ ρ) (h : EdA H H ta ρ [natD n]) (hn : n ≤ 100000) (Pv : Nat → Slots → Hp → Prop) (h0 : ∀ H', Ex H H' → Pv 0 σ H')
    (hs : ∀ k σ1 H1, k < n → Pv k σ1 H1 → tb { D with nx := Pv (k + 1), ct := Pv (k + 1), bk := u D } (σ1.set j (some (.int (k : Nat)))) H1) (hd : ∀ σ1 H1, Pv n σ1 H1 → u D σ1 H1) : tSeq (tFor (iRng1 ta) (gName j) tb) u D σ H :=
  ea_at env h _ fun vs H' e hv => by
    obtain ⟨v, rfl⟩ : ∃ v, vs = [v] := by
      match vs, hv with
      | [v], _ => exact ⟨v, rfl⟩
    cases (show v = V.int (n : Nat) from hv.1)
    refine ⟨n, rfl, by omega, by omega, ?_⟩
    rw [Int.toNat_natCast]
    refine for_it (n := n) (G := fun _ => True) (Y := YFn fun i => .int (0 + (i : Nat))) walk_range Pv (h0 H' e) (fun _ _ _ _ _ => trivial) (fun k x σ1 H1 H2 hk p y => ?_) fun σ1 H1 p => hd σ1 H1 p
    obtain ⟨rfl, rfl⟩ := y
    have := hs k σ1 _ hk p
    show tb _ (σ1.set j (some (.int (0 + (k : Int))))) _
    rw [Int.zero_add]
    exact this
end HW
end
section
/-! HWLaw: the law's last sums in plain Lean. -/
namespace HW
theorem zip_snd {α β : Type} : ∀ {l : List α} {m : List β}, m.length = l.length → (l.zip m).map (·.2) = m
  | [], [], _ => rfl
  | [], _ :: _, h => by simp at h
  | _ :: _, [], h => by simp at h
  | a :: l, b :: m, h => by
    have h : m.length + 1 = l.length + 1 := h
    rw [List.zip_cons_cons, List.map_cons, zip_snd (by omega)]
section
variable {B : Basin} {R : List Right}
/-- the law's amounts are the greatest deliveries -/
theorem law_most (ok : B.Ok) (okR : RightsOk B R) (hM : 0 < B.M) {as : List Int} {f : AId → Int} (L : Led B.net .src (claims B R) as f) : (lgRun (regs B) [] (claims B R)).map (·.2) = as := by
  rw [law_lg ok okR hM L]
  exact zip_snd (by rw [L.len, List.length_map])
/-- a right's rows of the amounts -/
theorem row_cut {as : List Int} {r : Nat} (hr : r < R.length) (hl : as.length = (claims B R).length) : (as.drop (r * B.M)).take ((r + 1) * B.M - r * B.M) = (List.range B.M).map fun m => dOf B as r m := by
  rw [claims_len] at hl
  have h1 : (r + 1) * B.M = r * B.M + B.M := by rw [Nat.add_mul, Nat.one_mul]
  have h2 : (r + 1) * B.M ≤ R.length * B.M := Nat.mul_le_mul_right _ hr
  refine List.ext_getElem? fun i => ?_
  rw [List.getElem?_take, List.getElem?_drop, List.getElem?_map]
  by_cases h : i < B.M
  · rw [if_pos (by omega), List.getElem?_range h]
    show as[r * B.M + i]? = some (dOf B as r i)
    unfold dOf
    rw [List.getD_eq_getElem?_getD, List.getElem?_eq_getElem (by omega)]
    rfl
  · rw [if_neg (by omega), List.getElem?_eq_none (by rw [List.length_range]; omega)]
    rfl
/-- the first rights' sums -/
theorem take_rows {d : Nat → Nat → Int} {last : Nat → Int} : ∀ {k : Nat}, k ≤ R.length → ((amts B R d last).take (k * B.M)).sum = sumL (List.range k) fun r => ((List.range B.M).map fun m => d r m).sum
  | 0, _ => by simp
  | k + 1, h => by
    have h1 : (k + 1) * B.M = k * B.M + B.M := by rw [Nat.add_mul, Nat.one_mul]
    have h2 : (k + 1) * B.M ≤ R.length * B.M := Nat.mul_le_mul_right _ h
    rw [h1, List.take_add, List.sum_append_int, take_rows (by omega), List.range_succ, sumL_append]
    congr 1
    have e : ((amts B R d last).drop (k * B.M)).take B.M = (List.range B.M).map fun m => d k m := by
      refine List.ext_getElem? fun i => ?_
      rw [List.getElem?_take, List.getElem?_drop, List.getElem?_map]
      by_cases q : i < B.M
      · rw [if_pos q, List.getElem?_range q]
        exact parts_right (by omega) q
      · rw [if_neg q, List.getElem?_eq_none (by rw [List.length_range]; omega)]
        rfl
    rw [e, sumL_cons, sumL_nil]
    omega
end
theorem infl_out {B : Basin} (ok : B.Ok) {s m : Nat} (h : ¬ (m < B.M ∧ s < B.n)) : B.infl s m = 0 := by
  unfold Basin.infl
  by_cases hs : s < B.n
  · rw [List.getD_eq_getElem?_getD, List.getElem?_eq_none (by rw [ok.infl s hs]; omega)]
    rfl
  · rw [site_none hs]
    rfl
end HW
end
section
/-! HWL1: the law. -/
namespace HW
open PySem PySem.Spec PyProof.Rows L2
local macro_rules | `(tactic| walk_at "ed") => `(tactic| repeat' (first
  | exact ed_int | exact ed_str | exact ed_bl | exact ed_non | exact ea_nil | exact eo_none
  | exact ed_var rfl
  | with_reducible apply ea_cons
  | with_reducible apply ed_op
  | with_reducible apply ed_un
  | with_reducible apply ed_tupT
  | with_reducible apply ed_lstT
  | with_reducible apply et_test
  | with_reducible apply et_B
  | with_reducible apply et_andC
  | with_reducible apply et_orC
  | with_reducible apply et_not
  | with_reducible apply eo_some
  | with_reducible apply ed_callT
  | exact rd_add | exact rd_sub | exact rd_lt | exact rd_le | exact rd_gt | exact rd_ge | exact rd_isN | exact rd_notN | exact ru_neg
  | exact rd_ixT rfl
  | exact rd_ixT (at_rng (by assumption))
  | exact rd_ixT (at_ints (by assumption))
  | exact rd_ixT (at_pred (by assumption))
  | (show List.length _ = _; exact rfl)
  | (show List.length _ ≤ 100000; exact Nat.le_of_ble_eq_true rfl)
  | apply ed_tupT))
local macro_rules | `(tactic| walk_at "gd") => `(tactic| repeat' (first | exact gd_name (by decide) | exact gs_nil | with_reducible apply gs_cons | refine' gd_tup ?_ rfl))
variable {P : Program} {w : World} {K : PySem.W.Frag} {mg : Str → Option Value} {base : Heap} {CA CN CS : Addr}
section
variable {B0 B : Hp} {ρ : Rho} {te : TE} {ta : TA} {ds : List PyData} {N : Rho → Prop} {R : PyData → Rho → Prop} {R1 : PyData → Prop}
theorem sf_end {H0 : Hp} {t : TS} {D : Ends} {σ : Slots} {H : Hp} (E : Eok B0 B H0 H σ ρ) (S : Sf B0 B t ρ (fun _ => False) R) (k : ∀ d ρ' v H1 H2, R d ρ' → Dq H1 d v → D.rt v H2) : t D σ H :=
  S H0 H σ E D (fun _ _ _ _ e => e.elim) fun d ρ' v H1 H2 _ hr _ hv => k d ρ' v H1 H2 hr hv
theorem ef_dig {a : Addr} {ns : List Int} {i : Nat} {E : XK} (hS : SqL K B a (ns.map V.int)) (h : ρ[i]? = some (.raw (.ref a))) :
    Ef B0 B (tCall (spDig K) [] E (tCons (tVar i) (tCons (tC (.int 0)) (tCons (tC (.int 60)) tNil)))) ρ (fun d => ∃ dg, d = listD dg) := fun H0 H σ Ek Q q => by
  obtain ⟨x, hx, e⟩ := Ek.env.get h
  have e : x = some (V.ref a) := e
  subst e
  refine ⟨_, hx, ?_⟩
  show spDig K ([.ref a, .int 0, .int 60] ++ []) H Q E
  exact ⟨H0, a, ns, Ek.le.w, rfl, sql_mono Ek.le.t hS, fun dg v H1 H2 l hv => q _ v H1 H2 ⟨dg, rfl⟩ (.of l) (Ek.leE l) hv⟩
theorem sf_boxE {i : Nat} (hno : noO ρ = true) (h : Ef B0 B te ρ (fun d => ∃ dg, d = listD dg)) (k : ∀ dg p, apart ρ p → N (ρ.set i (.box p dg))) : Sf B0 B (tAsg (tLst (tCons te (tCons (tC (.int 0)) tNil))) (gName i)) ρ N R := fun H0 H σ E D n r =>
  h H0 H σ E _ fun d v H1 H2 hd l E1 hv => by
    obtain ⟨dg, rfl⟩ := hd
    refine ⟨by show 2 ≤ sizeLine; decide, fun p hp => ?_⟩
    have h0 : H1 p = none := Evl.fresh_back E1.le.w hp
    have l2 : Le H1 H2 H1 (upd H2 p (.lst [v, .int 0])) := ⟨.rfl', Evl.Ex.new hp, E1.le.w.trans (Evl.Ex.new hp), fun _ _ _ h => h⟩
    exact n _ H1 _ _ (k dg p (apart_new hp hno E1.env)) l.b ⟨E1.le.trans l2, (E1.leE l2).env.set (s := .box p dg) ⟨rfl, Evl.fresh_back E1.le.t hp, h0, v, 0, upd_same, Int.le_refl 0, hv⟩ i⟩
/-- a call that leaves what stands, beside the box -/
theorem sf_closed {i j n : Nat} {p : Addr} {dg : List Int} {f : List PyData → (PyData → Prop) → Prop} {X : XK} (h : ρ[i]? = some (.box p dg)) (hno : noOwn (ρ.set i .any) = true) (ha : EdA B B ta ρ ds) (hn : ds.length = n) (hf : f ds R1) (him : ∀ d, R1 d → imm d = true) (k : ∀ d, R1 d → N (ρ.set j (.dat d))) :
    Sf B B (tAsg (tCall (spC n f) [] X ta) (gName j)) ρ N R := fun H0 H σ E D nn r =>
  ha H0 H σ E _ fun vs H1 H2 l hv => by
    have E1 := E.leE l
    obtain ⟨x, hx, e, hB, hb0, lb, ib, hb1, hib, hbl⟩ := E1.env.get h
    show spC n f (vs ++ []) H2 _ _
    rw [List.append_nil]
    refine ⟨ds, R1, hv.mono E1.le.w, hn, hf, fun d v H3 hd e3 hz => ?_⟩
    have hp3 := e3 _ _ hb1
    have e13 : Ex H1 (cut H3 p) := fun b o hb => cut_some (e3 b o (E1.le.w b o hb)) (fun z => by subst z; rw [hb0] at hb; cases hb)
    have kt : KeepT H3 (cut H3 p) := fun b xs hb => cut_some hb (fun z => by subst z; rw [hp3] at hb; cases hb)
    have hz' : Dq (cut H3 p) d v := Dq.keepT kt (him d hd) hz
    have e4 : EnvOk B (cut H3 p) H3 σ ρ := env_back (env_b (H := H2) e13 hno (env_any i E1.env)) h hx ⟨e, hB, cut_at, lb, ib, hp3, hib, hbl.mono e13⟩
    have le4 : Le B B (cut H3 p) H3 := ⟨E1.le.b.trans e13, E1.le.t.trans e3, ex_cut, fun b o h1 h2 => by rw [h1] at h2; cases h2⟩
    exact nn _ (cut H3 p) H3 _ (k d hd) (l.b.trans e13) ⟨le4, e4.set (s := .dat d) ⟨v, rfl, hz'⟩ j⟩
end
theorem imm_rows (a p : Nat) (g : Nat → Nat → Int) : imm (rowsD a p g) = true := by
  unfold rowsD
  exact immAll_map fun r => immAll_map fun m => rfl
theorem imm_plan (B : Basin) (R : List Right) (recs : List Rec) : imm (planOf B R recs) = true := by
  unfold planOf planD
  simp only [imm, imm.immAll, imm_rows, Bool.and_self]
theorem plan_turned {B : Basin} {R : List Right} {x : Nat → Nat → Int} {d rel sto : Nat → Nat → Int} : planD (turned B x) R d rel sto = planD B R d rel sto := by
  unfold planD
  rw [turned_n]
  rfl
theorem basin_turned {B : Basin} {x : Nat → Nat → Int} : basinD (turned B x) = .tuple [natD B.M, .tuple ((List.range B.n).map fun k => siteD k ((turned B x).site k))] := by
  unfold basinD
  rw [turned_n]
  rfl
theorem bas_turned {B : Basin} {x : Nat → Nat → Int} (hB : Bas B) (hx : ∀ m s, m < B.M → s < B.n → 0 ≤ x m s) : Bas (turned B x) := ⟨turned_ok hB.ok hx, by rw [turned_n]; exact hB.n, hB.M0, hB.M⟩
theorem shp_rows (a p : Nat) (g : Nat → Nat → Int) : SeqAt.shaped (.list ((List.range a).map fun r => .tuple ((List.range p).map fun m => .int (g r m)))) = true := by
  have h1 : ∀ L : List Nat, ∀ f : Nat → Int, PyData.canLayAll0 (L.map fun m => .int (f m)) = true ∧ PyData.depthAll (L.map fun m => .int (f m)) ≤ 0 := fun L f => by
    induction L with
    | nil => exact ⟨rfl, Nat.le_refl _⟩
    | cons m L ih =>
      rw [List.map_cons]
      simp only [PyData.canLayAll0, PyData.depthAll, PyData.canLay0, PyData.depth, ih.1, Bool.and_self, true_and]
      omega
  have h2 : ∀ L : List Nat, PyData.canLayAll0 (L.map fun r => PyData.tuple ((List.range p).map fun m => .int (g r m))) = true ∧ PyData.depthAll (L.map fun r => PyData.tuple ((List.range p).map fun m => .int (g r m))) ≤ 1 := fun L => by
    induction L with
    | nil => exact ⟨rfl, Nat.zero_le _⟩
    | cons r L ih =>
      have h3 := h1 (List.range p) (g r)
      rw [List.map_cons]
      simp only [PyData.canLayAll0, PyData.depthAll, PyData.canLay0, PyData.depth, h3.1, ih.1, Bool.and_self, true_and]
      omega
  have h := h2 (List.range a)
  unfold SeqAt.shaped
  rw [Bool.and_eq_true]
  exact ⟨by simpa only [PyData.canLay0] using h.1, decide_eq_true (by simp only [PyData.depth]; omega)⟩
theorem eqv_rows (a p : Nat) (g : Nat → Nat → Int) : PyData.eqv (.list ((List.range a).map fun r => .tuple ((List.range p).map fun m => .int (g r m)))) (.list ((List.range a).map fun r => .tuple ((List.range p).map fun m => .int (g r m)))) = true := by
  have h := shp_rows a p g
  unfold SeqAt.shaped at h
  rw [Bool.and_eq_true] at h
  exact SeqAt.eqv_refl _ h.1
/-- a part of a list of whole numbers -/
theorem cut_ints {as : List Int} {lo hi : Nat} (h1 : lo ≤ hi) (h2 : hi ≤ as.length) : cutD (as.map PyData.int) (some (lo : Int)) (some (hi : Int)) = ((as.drop lo).take (hi - lo)).map PyData.int := by
  unfold cutD
  rw [List.length_map, HT.sIx_nat, HT.sIx_nat, Nat.min_eq_left h2, Nat.min_eq_left (Nat.le_trans h1 h2), List.map_take, List.map_drop]
theorem cut_first {as : List Int} {hi : Nat} (h2 : hi ≤ as.length) : cutD (as.map PyData.int) none (some (hi : Int)) = (as.take hi).map PyData.int := by
  unfold cutD
  rw [List.length_map, HT.sIx_nat, HT.sIx_none, Nat.min_eq_left h2, List.map_take]
  rfl
theorem ed_isI {B0 B : Hp} {ρ : Rho} {te : TE} {a b : Int} (h : Ed B0 B te ρ (.int a)) (e : a = b) : Ed B0 B te ρ (.int b) := e ▸ h
def spLaw (K : PySem.W.Frag) : Sp := fun vs H Q _ => ∃ (a : Addr) (ns : List Int), vs = [.ref a] ∧ SqL K H a (ns.map V.int) ∧ ∀ H', Q (.bl true) H'
abbrev s_law : Stmt := tp 68
theorem sc_law : FnScope ["_law_script", "_law_box", "_law_basin_here", "_law_rights_here", "_law_plan", "_law_amounts", "_law_due", "_law_rows", "_law_sites", "_law_turned", "_law_most", "_law_total", "_law_r", "_law_m", "_law_site", "_law_k", "_law_row"] ["_law_script"] (defScope s_law) := ⟨rfl, rfl, rfl, by decide +kernel, rfl, by decide +kernel, by decide +kernel⟩
theorem ok_law {f : Addr} {fd : FuncData} (F : Fun K "law" "law" s_law f fd) (T : Txt K mg CA CN CS)
    (G__law_basin : FnF P w K mg base 2 "_law_basin" ["_law_box"] (spB 0 d__law_basin))
    (G__law_closed : FnF P w K mg base 11 "_law_closed" ["_law_basin_here", "_law_rights_here", "_law_rows"] (spC 3 d__law_closed))
    (G__law_digits : FnF P w K mg base 2 "_law_digits" ["_law_script", "_law_first", "_law_last"] (spDig K))
    (G__law_draw : FnF P w K mg base 1 "_law_draw" ["_law_box", "_law_many"] (spB 1 d__law_draw))
    (G__law_greatest : FnF P w K mg base 3 "_law_greatest" ["_law_basin_here", "_law_rights_here"] (spD 2 d__law_greatest))
    (G__law_plan_fault : FnF P w K mg base 2 "_law_plan_fault" ["_law_basin_here", "_law_rights_here", "_law_plan"] (spD 3 d__law_plan_fault))
    (G__law_rights : FnF P w K mg base 3 "_law_rights" ["_law_box", "_law_basin_here", "_law_most"] (spB 2 d__law_rights)) : FnOk P w K mg base CX0 12 f fd ["_law_script"] (spLaw K) := by
  refine F.ok sc_law (fun vs H Q E h => ?_) (fun cdv A outer s H vs Q E hr h => ?_)
  · obtain ⟨_, _, rfl, _⟩ := h; rfl
  refine ⟨_, (pss_cons (ps_set (i := 1) sc_law.nd rfl (Or.inr rfl) (pe_lst (pa_cons (pe_fn G__law_digits (hr.mono (by decide)) rfl (pa_cons (pv 0) (pa_cons pe_int (pa_cons pe_int pa_nil)))) (pa_cons pe_int pa_nil))))
 (pss_cons (ps_set (i := 2) sc_law.nd rfl (Or.inr rfl) (pe_fn G__law_basin (hr.mono (by decide)) rfl (pa_cons (pv 1) pa_nil)))
 (pss_cons (ps_set (i := 3) sc_law.nd rfl (Or.inl rfl) (pe_fn G__law_rights (hr.mono (by decide)) rfl (pa_cons (pv 1) (pa_cons (pv 2) (pa_cons pe_int pa_nil)))))
 (pss_cons (ps_set (i := 4) sc_law.nd rfl (Or.inl rfl) (pe_fn G__law_closed (hr.mono (by decide)) rfl (pa_cons (pv 2) (pa_cons (pv 3) (pa_cons (pe_lc  (own := [("_law_m", 13)]) rfl sc_law.nd (pi_range1 rfl T.b_range (pa_cons (pe_ix (ix_tupK (K := K) rfl) (pv 2) pe_int (fun _ _ => rfl)) pa_nil)) (blkOk_by (own := [("_law_m", 13)]) (N := ["_law_script", "_law_box", "_law_basin_here", "_law_rights_here", "_law_plan", "_law_amounts", "_law_due", "_law_rows", "_law_sites", "_law_turned", "_law_most", "_law_total", "_law_r", "_law_m", "_law_site", "_law_k", "_law_row"]) (sc := (defScope s_law)) (by decide +kernel))
   (fun _ _ _ _ _ => (pg_name (i := 13) sc_law.nd rfl (Or.inr rfl)))
   (fun _ _ _ _ _ => pts_nil)
   (fun _ _ _ _ _ => (pe_callTy (call_tupK (K := K) rfl) rfl T.b_tuple (by decide +kernel) (pa_cons (pe_lc  (own := [("_law_site", 14)]) rfl sc_law.nd (pi_tupK (K := K) rfl (pe_ix (ix_tupK (K := K) rfl) (pv 2) pe_int (fun _ _ => rfl))) (blkOk_by (own := [("_law_site", 14)]) (N := ["_law_script", "_law_box", "_law_basin_here", "_law_rights_here", "_law_plan", "_law_amounts", "_law_due", "_law_rows", "_law_sites", "_law_turned", "_law_most", "_law_total", "_law_r", "_law_m", "_law_site", "_law_k", "_law_row"]) (sc := (relS _ (defScope s_law))) (by decide +kernel))
   (fun _ _ _ _ _ => (pg_name (i := 14) sc_law.nd rfl (Or.inl rfl)))
   (fun _ _ _ _ _ => pts_nil)
   (fun _ _ _ _ _ => (pe_ix (ix_tupK (K := K) rfl) (pe_ix (ix_tupK (K := K) rfl) (pv 14) pe_int (fun _ _ => rfl)) (pv 13) (fun _ _ => rfl)))) pa_nil)))) pa_nil)))))
 (pss_cons (ps_set (i := 5) sc_law.nd rfl (Or.inr rfl) (pe_fn G__law_greatest (hr.mono (by decide)) rfl (pa_cons (pv 2) (pa_cons (pv 3) pa_nil))))
 (pss_cons (ps_setLc (i := 6) (own := [("_law_r", 12)]) rfl sc_law.nd rfl rfl (sw_true rfl rfl rfl (by decide +kernel)) (pi_range1 rfl T.b_range (pa_cons (pe_callB (call_lenK (K := K) rfl) rfl T.b_len PySem.boot_len (pa_cons (pv 3) pa_nil)) pa_nil)) (blkOk_by (own := [("_law_r", 12)]) (N := ["_law_script", "_law_box", "_law_basin_here", "_law_rights_here", "_law_plan", "_law_amounts", "_law_due", "_law_rows", "_law_sites", "_law_turned", "_law_most", "_law_total", "_law_r", "_law_m", "_law_site", "_law_k", "_law_row"]) (sc := (defScope s_law)) (by decide +kernel))
   (fun _ _ _ _ _ => (pg_name (i := 12) sc_law.nd rfl (Or.inl rfl)))
   (fun _ _ _ _ _ => pts_nil)
   (fun _ _ _ _ _ => (pe_callTy (call_tupK (K := K) rfl) rfl T.b_tuple (by decide +kernel) (pa_cons (pe_slice (sl_lisK (K := K) rfl) (pv 5) (po_some (pe_op op_mul (pv 12) (pe_ix (ix_tupK (K := K) rfl) (pv 2) pe_int (fun _ _ => rfl)))) (po_some (pe_op op_mul (pe_op op_add (pv 12) pe_int) (pe_ix (ix_tupK (K := K) rfl) (pv 2) pe_int (fun _ _ => rfl))))) pa_nil))))
 (pss_cons (ps_if (PW.pt (pw_or (pt_cmpR (op_neK (K := K) rfl hr.units) (pe_callTy (call_lisK (K := K) rfl) rfl T.b_list (by decide +kernel) (pa_cons (pe_ix (ix_tupK (K := K) rfl) (pv 4) pe_int (fun _ _ => rfl)) pa_nil)) (pv 6) (nomark _)) (pw_or1 (pt_cmpR op_notN (pe_fn G__law_plan_fault (hr.mono (by decide)) rfl (pa_cons (pv 2) (pa_cons (pv 3) (pa_cons (pv 4) pa_nil)))) pe_non (nomark _)))))
  (pss_one (ps_ret pe_bl))
  pss_nil)
 (pss_cons (ps_set (i := 7) sc_law.nd rfl (Or.inr rfl) (pe_lc  (own := [("_law_m", 13)]) rfl sc_law.nd (pi_range1 rfl T.b_range (pa_cons (pe_ix (ix_tupK (K := K) rfl) (pv 2) pe_int (fun _ _ => rfl)) pa_nil)) (blkOk_by (own := [("_law_m", 13)]) (N := ["_law_script", "_law_box", "_law_basin_here", "_law_rights_here", "_law_plan", "_law_amounts", "_law_due", "_law_rows", "_law_sites", "_law_turned", "_law_most", "_law_total", "_law_r", "_law_m", "_law_site", "_law_k", "_law_row"]) (sc := (defScope s_law)) (by decide +kernel))
   (fun _ _ _ _ _ => (pg_name (i := 13) sc_law.nd rfl (Or.inl rfl)))
   (fun _ _ _ _ _ => pts_nil)
   (fun _ _ _ _ _ => (pe_callTy (call_tupK (K := K) rfl) rfl T.b_tuple (by decide +kernel) (pa_cons (pe_lc  (own := [("_law_site", 14)]) rfl sc_law.nd (pi_tupK (K := K) rfl (pe_ix (ix_tupK (K := K) rfl) (pv 2) pe_int (fun _ _ => rfl))) (blkOk_by (own := [("_law_site", 14)]) (N := ["_law_script", "_law_box", "_law_basin_here", "_law_rights_here", "_law_plan", "_law_amounts", "_law_due", "_law_rows", "_law_sites", "_law_turned", "_law_most", "_law_total", "_law_r", "_law_m", "_law_site", "_law_k", "_law_row"]) (sc := (relS _ (defScope s_law))) (by decide +kernel))
   (fun _ _ _ _ _ => (pg_name (i := 14) sc_law.nd rfl (Or.inl rfl)))
   (fun _ _ _ _ _ => pts_nil)
   (fun _ _ _ _ _ => (pe_fn G__law_draw (hr.mono (by decide)) rfl (pa_cons (pv 1) (pa_cons pe_int pa_nil))))) pa_nil)))))
 (pss_cons (ps_setLc (i := 8) (own := [("_law_k", 15)]) rfl sc_law.nd rfl rfl (sw_true rfl rfl rfl (by decide +kernel)) (pi_range1 rfl T.b_range (pa_cons (pe_callB (call_lenK (K := K) rfl) rfl T.b_len PySem.boot_len (pa_cons (pe_ix (ix_tupK (K := K) rfl) (pv 2) pe_int (fun _ _ => rfl)) pa_nil)) pa_nil)) (blkOk_by (own := [("_law_k", 15)]) (N := ["_law_script", "_law_box", "_law_basin_here", "_law_rights_here", "_law_plan", "_law_amounts", "_law_due", "_law_rows", "_law_sites", "_law_turned", "_law_most", "_law_total", "_law_r", "_law_m", "_law_site", "_law_k", "_law_row"]) (sc := (defScope s_law)) (by decide +kernel))
   (fun _ _ _ _ _ => (pg_name (i := 15) sc_law.nd rfl (Or.inr rfl)))
   (fun _ _ _ _ _ => pts_nil)
   (fun _ _ _ _ _ => (pe_op (op_catTK (K := K) rfl) (pe_slice (sl_tupK (K := K) rfl) (pe_ix (ix_tupK (K := K) rfl) (pe_ix (ix_tupK (K := K) rfl) (pv 2) pe_int (fun _ _ => rfl)) (pv 15) (fun _ _ => rfl)) po_none (po_some pe_int)) (pe_tup (pa_cons (pe_callTy (call_tupK (K := K) rfl) rfl T.b_tuple (by decide +kernel) (pa_cons (pe_lc  (own := [("_law_row", 16)]) rfl sc_law.nd (pi_listK (K := K) rfl (pv 7)) (blkOk_by (own := [("_law_row", 16)]) (N := ["_law_script", "_law_box", "_law_basin_here", "_law_rights_here", "_law_plan", "_law_amounts", "_law_due", "_law_rows", "_law_sites", "_law_turned", "_law_most", "_law_total", "_law_r", "_law_m", "_law_site", "_law_k", "_law_row"]) (sc := (relS _ (defScope s_law))) (by decide +kernel))
   (fun _ _ _ _ _ => (pg_name (i := 16) sc_law.nd rfl (Or.inl rfl)))
   (fun _ _ _ _ _ => pts_nil)
   (fun _ _ _ _ _ => (pe_ix (ix_tupK (K := K) rfl) (pv 16) (pv 15) (fun _ _ => rfl)))) pa_nil)) pa_nil)))))
 (pss_cons (ps_set (i := 9) sc_law.nd rfl (Or.inl rfl) (pe_tup (pa_cons (pe_ix (ix_tupK (K := K) rfl) (pv 2) pe_int (fun _ _ => rfl)) (pa_cons (pe_callTy (call_tupK (K := K) rfl) rfl T.b_tuple (by decide +kernel) (pa_cons (pv 8) pa_nil)) pa_nil))))
 (pss_cons (ps_set (i := 4) sc_law.nd rfl (Or.inl rfl) (pe_fn G__law_closed (hr.mono (by decide)) rfl (pa_cons (pv 2) (pa_cons (pv 3) (pa_cons (pv 7) pa_nil)))))
 (pss_cons (ps_if (pt_cmpR op_notN (pe_fn G__law_plan_fault (hr.mono (by decide)) rfl (pa_cons (pv 9) (pa_cons (pv 3) (pa_cons (pv 4) pa_nil)))) pe_non (nomark _))
  (pss_one (ps_ret pe_bl))
  pss_nil)
 (pss_cons (ps_set (i := 10) sc_law.nd rfl (Or.inl rfl) (pe_fn G__law_greatest (hr.mono (by decide)) rfl (pa_cons (pv 9) (pa_cons (pv 3) pa_nil))))
 (pss_cons (ps_set (i := 11) sc_law.nd rfl (Or.inl rfl) pe_int)
 (pss_cons (ps_for PassesOwn.never rfl (pi_range1 rfl T.b_range (pa_cons (pe_callB (call_lenK (K := K) rfl) rfl T.b_len PySem.boot_len (pa_cons (pv 3) pa_nil)) pa_nil)) (pg_name (i := 12) sc_law.nd rfl (Or.inl rfl))
  (pss_cons (ps_set (i := 11) sc_law.nd rfl (Or.inl rfl) (pe_op op_add (pv 11) (pe_callB (cr_sumTK (K := K) rfl rfl) rfl T.b_sum (by decide +kernel) (pa_cons (pe_ix (ix_tupK (K := K) rfl) (pe_ix (ix_tupK (K := K) rfl) (pv 4) pe_int (fun _ _ => rfl)) (pv 12) (fun _ _ => rfl)) pa_nil))))
 (pss_one (ps_if (pt_cmpR op_gt (pv 11) (pe_callB (cr_sumK (K := K) rfl rfl) rfl T.b_sum (by decide +kernel) (pa_cons (pe_slice (sl_lisK (K := K) rfl) (pv 10) po_none (po_some (pe_op op_mul (pe_op op_add (pv 12) pe_int) (pe_ix (ix_tupK (K := K) rfl) (pv 2) pe_int (fun _ _ => rfl))))) pa_nil)) (nomark _))
  (pss_one (ps_ret pe_bl))
  pss_nil))))
 (pss_one (ps_ret pe_bl))))))))))))))))), ?_⟩
  obtain ⟨a, ns, rfl, hS, q⟩ := h
  have E0 : Eok H H H H [some (.ref a), none, none, none, none, none, none, none, none, none, none, none, none, none, none, none, none] [.raw (.ref a), .any, .any, .any, .any, .any, .any, .any, .any, .any, .any, .any, .any, .any, .any, .any, .any] := ⟨.refl .rfl', rfl, trivial, trivial, trivial, trivial, trivial, trivial, trivial, trivial, trivial, trivial, trivial, trivial, trivial, trivial, trivial, trivial, trivial⟩
  show tSeq _ _ _ [some (.ref a), none, none, none, none, none, none, none, none, none, none, none, none, none, none, none, none] H
  refine sf_end E0 (R := fun d _ => d = .bool true) ?_ (fun d ρ' v H1 H2 hd hv => by
    subst hd
    cases (show v = V.bl true from hv)
    exact q H2)
  -- box
  refine sf_seq (sf_boxE rfl (ef_dig hS rfl) ?_)
  intro dg p _
  -- basin, rights
  refine sf_seq (sf_asg (ef_box (R := fun d => ∃ B, Drawn B ∧ d = basinD B) rfl (by exact trivial) ea_nil rfl ⟨rfl, rfl⟩) ?_)
  rintro _ ⟨B, hD, rfl⟩
  have hB := hD.bas
  have hn := hB.n
  have hM := hB.M
  have hM0 := hB.M0
  refine sf_seq (sf_asg (ef_box (R := fun d => ∃ R', Rts B R' ∧ d = rightsD R') rfl (by exact trivial) (ea_cons (ed_var rfl) (ea_cons ed_int ea_nil)) rfl ⟨B, hB, hD.n0, rfl, rfl⟩) ?_)
  rintro _ ⟨R, hR, rfl⟩
  have hRl := hR.len
  have hmul : ∀ r, r ≤ R.length → r * B.M ≤ R.length * B.M := fun r hr => Nat.mul_le_mul_right _ hr
  -- the first season
  let rows0 : List (List Int) := (List.range B.M).map fun m => (List.range B.n).map fun s => B.infl s m
  have hx0 : rowX rows0 = fun m s => B.infl s m := by
    funext m s
    unfold rowX
    by_cases hm : m < B.M
    · rw [show rows0.getD m [] = (List.range B.n).map fun s => B.infl s m from map_getD hm]
      by_cases hs : s < B.n
      · exact map_getD hs
      · rw [infl_out hB.ok (fun z => hs z.2), List.getD_eq_getElem?_getD, List.getElem?_eq_none (by simp; omega)]
        rfl
    · rw [infl_out hB.ok (fun z => hm z.1), List.getD_eq_getElem?_getD (l := rows0), List.getElem?_eq_none (by simp [rows0]; omega)]
      rfl
  have hW0 : RowsOk B rows0 := by
    refine ⟨by simp [rows0], fun r hr => ?_, fun r hr x hx => ?_⟩
    · obtain ⟨m, _, rfl⟩ := List.mem_map.mp hr
      simp
    · obtain ⟨m, hm, rfl⟩ := List.mem_map.mp hr
      obtain ⟨s, hs, rfl⟩ := List.mem_map.mp hx
      have hm := List.mem_range.mp hm
      have hs := List.mem_range.mp hs
      have hl : m < (B.site s).infl.length := by rw [hB.ok.infl s hs]; exact hm
      unfold Basin.infl
      rw [List.getD_eq_getElem?_getD, List.getElem?_eq_getElem hl]
      exact hD.infl s hs _ (List.getElem_mem hl)
  refine sf_seq (sf_closed (i := 1) (p := p) (dg := dg) (ds := [basinD B, rightsD R, .list (rows0.map intsD)]) (R1 := fun d => ∃ recs, Run B R (rowX rows0) recs ∧ recs.length = B.M ∧ d = planOf B R recs) rfl rfl (ea_cons (ed_var rfl) (ea_cons (ed_var rfl) (ea_cons (ed_is (ed_lc1 (L := List.range B.M) (emb := fun i => .int (i : Nat)) (fun m => intsD ((List.range B.n).map fun s => B.infl s m)) (EdI.weak (ei_rng1 (n := B.M) (by walk_at "ed") (by omega))) (by simp; omega) ?_) ?_) ea_nil))) rfl ⟨B, R, rows0, hB, hR, hW0, rfl, rfl⟩ ?_ ?_)
  · intro i m hm
    obtain ⟨rfl, hm⟩ := rng_at hm
    refine ⟨_, by walk_at "gd", ed_is (ed_tupL (el_ed (ed_lc1 (L := List.range B.n) (emb := fun k => siteD k (B.site k)) (fun s => .int (B.infl s m)) (EdI.weak (ei_tup (by walk_at "ed"))) (by simp; omega) ?_))) ?_⟩
    · intro j s hs
      obtain ⟨rfl, hs⟩ := rng_at hs
      have hl : m < (B.site s).infl.length := by rw [hB.ok.infl s hs]; exact hm
      exact ⟨_, by walk_at "gd", ed_op (ed_op (ed_var rfl) ed_int (rd_ixT rfl)) (ed_var rfl) (rd_ixT (at_ints hl))⟩
    · unfold intsD
      rw [List.map_map]
      rfl
  · rw [List.map_map]
    rfl
  · rintro _ ⟨recs, _, _, rfl⟩
    exact imm_plan B R recs
  rintro _ ⟨recs, hrun, hrl, rfl⟩
  rw [hx0] at hrun
  obtain ⟨as, f0, L0⟩ := basin_led hB.ok hR.ok hM0
  have hal : as.length = R.length * B.M + B.n := by rw [L0.len, claims_len]
  have hfc := (hrun.forecast hB.ok hR.ok L0).1
  have hi0 : ∀ m s, m < B.M → s < B.n → 0 ≤ B.infl s m := fun m s _ _ => hB.ok.i0 s m
  have hpl : ∀ m, m < B.M → MonthOk B R (recD recs) (recRel recs) (recSto recs) m := fun m hm => by
    have h1 := hrun.plan hB.ok hR.ok hi0 m (by rw [hrl]; exact hm)
    rw [turned_self hB.ok] at h1
    exact h1
  -- the greatest deliveries
  refine sf_seq (sf_asgE (d := listD as) (ed_callT (by walk_at "ed") rfl ⟨B, R, hB, hR, rfl, by rw [law_most hB.ok hR.ok hM0 L0]⟩) ?_)
  -- what is due
  let due : List PyData := (List.range R.length).map fun r => .tuple ((List.range B.M).map fun m => .int (recD recs r m))
  refine sf_seq (sf_asgE (d := .list due) (ed_lc1 (L := List.range R.length) (emb := fun i => .int (i : Nat)) (fun r => .tuple ((List.range B.M).map fun m => .int (recD recs r m))) (EdI.weak (ei_rng1 (n := R.length) (ea_cons (ed_lenR (by walk_at "ed")) ea_nil) (by omega))) (by simp; omega) ?_) ?_)
  · intro i r hr
    obtain ⟨rfl, hr⟩ := rng_at hr
    have h1 := hmul (r + 1) hr
    have h2 : (r + 1) * B.M = r * B.M + B.M := by rw [Nat.add_mul, Nat.one_mul]
    refine ⟨_, by walk_at "gd", ed_is (ed_tupL (el_ed (ed_slL (lo := some ((r * B.M : Nat) : Int)) (hi := some (((r + 1) * B.M : Nat) : Int)) (ed_var rfl) (eo_some (ed_isI (ed_op (ed_var rfl) (by walk_at "ed") (rd_mul (.inl ⟨by omega, by omega⟩))) ?_)) (eo_some (ed_isI (ed_op (ed_op (ed_var rfl) ed_int rd_add) (by walk_at "ed") (rd_mul (.inl ⟨by omega, by omega⟩))) ?_))))) ?_⟩
    · rw [Int.natCast_mul]
    · rw [Int.natCast_mul, Int.natCast_add]
      rfl
    · rw [cut_ints (by omega) (by omega), row_cut hr L0.len, List.map_map]
      congr 1
      refine List.map_congr_left fun m hm => ?_
      show PyData.int (dOf B as r m) = PyData.int (recD recs r m)
      rw [hfc m (by rw [hrl]; exact List.mem_range.mp hm) r hr]
  refine sf_seq (sf_if (b := false) (et_is (et_orC (et_test (ed_op (d := .list due) (ed_lisT (ed_op (ed_var rfl) ed_int (rd_ixT rfl))) (ed_var rfl) (rd_neD (shp_rows _ _ _) (shp_rows _ _ _)))) (et_test (ed_op (ed_callT (d := .none) (by walk_at "ed") rfl ⟨B, R, recD recs, recRel recs, recSto recs, hB, hR, hpl, rfl, rfl⟩) ed_non rd_notN))) ?_) (fun e => by cases e) fun _ => sf_next ?_)
  · rw [eqv_rows]
    rfl
  -- drawn rows
  refine sf_seq (sf_asg (R1 := fun d => ∃ rows, RowsOk B rows ∧ d = .list (rows.map intsD)) (ef_lc (L := List.range B.M) (emb := fun i => .int (i : Nat)) (fun _ d => ∃ xs : List Int, d = intsD xs ∧ xs.length = B.n ∧ ∀ x ∈ xs, 0 ≤ x ∧ x ≤ 99) (ei_rng1 (n := B.M) (by walk_at "ed") (by omega)) (by simp; omega) rfl rfl ?_ ?_) ?_)
  · intro i m hm
    refine ⟨_, gd_name (by decide), rfl, fun a h => h, ?_⟩
    refine ef_tupL (Rs := fun ds => ds.length = B.n ∧ ∀ (j : Nat) (d : PyData), ds[j]? = some d → Below 9 d) (ef_lc (L := List.range B.n) (emb := fun k => siteD k (B.site k)) (fun _ => Below 9) (ei_tup (by walk_at "ed")) (by simp; omega) rfl rfl ?_ ?_) ?_
    · intro j s hs
      exact ⟨_, gd_name (by decide), rfl, fun a h => h, ef_draw rfl (by exact trivial) ed_int (by decide)⟩
    · intro ds hl hd
      rw [List.length_range] at hl
      exact ⟨ds, rfl, hl, fun j d hj => hd j d j hj (List.getElem?_range (by have := (List.getElem?_eq_some_iff.mp hj).1; omega))⟩
    · rintro ds ⟨hl, hd⟩
      obtain ⟨xs, rfl, h1, h2⟩ := below_ints hd
      exact ⟨xs, rfl, by rw [h1, hl], fun x hx => ⟨(h2 x hx).1, by have := (h2 x hx).2; omega⟩⟩
  · intro ds hl hd
    rw [List.length_range] at hl
    have key : ∀ ds : List PyData, (∀ (j : Nat) (d : PyData), ds[j]? = some d → ∃ xs : List Int, d = intsD xs ∧ xs.length = B.n ∧ ∀ x ∈ xs, 0 ≤ x ∧ x ≤ 99) → ∃ rows : List (List Int), ds = rows.map intsD ∧ ∀ r ∈ rows, r.length = B.n ∧ ∀ x ∈ r, 0 ≤ x ∧ x ≤ 99 := fun ds => by
      induction ds with
      | nil => exact fun _ => ⟨[], rfl, fun r hr => by simp at hr⟩
      | cons d ds ih =>
        intro h
        obtain ⟨xs, rfl, h1, h2⟩ := h 0 d rfl
        obtain ⟨rows, rfl, h3⟩ := ih fun j e he => h (j + 1) e (by simpa using he)
        exact ⟨xs :: rows, rfl, fun r hr => by
          rcases List.mem_cons.mp hr with rfl | hr
          · exact ⟨h1, h2⟩
          · exact h3 r hr⟩
    obtain ⟨rows, rfl, h1⟩ := key ds fun j d hj => hd j d j hj (List.getElem?_range (by have := (List.getElem?_eq_some_iff.mp hj).1; omega))
    exact ⟨rows, ⟨by rw [← hl, List.length_map], fun r hr => (h1 r hr).1, fun r hr => (h1 r hr).2⟩, rfl⟩
  rintro _ ⟨rows, hW, rfl⟩
  have hx := hW.x0
  have tB : Bas (turned B (rowX rows)) := bas_turned hB hx
  have tR : Rts (turned B (rowX rows)) R := ⟨turned_rok hR.ok, hRl⟩
  -- the basin that had them
  refine sf_seq (sf_asgE (d := .list ((List.range B.n).map fun k => siteD k ((turned B (rowX rows)).site k))) (ed_lc1 (L := List.range B.n) (emb := fun i => .int (i : Nat)) (fun k => siteD k ((turned B (rowX rows)).site k)) (EdI.weak (ei_rng1 (n := B.n) (ea_cons (ed_lenR (by walk_at "ed")) ea_nil) (by omega))) (by simp; omega) ?_) ?_)
  · intro i k hk
    obtain ⟨rfl, hk⟩ := rng_at hk
    refine ⟨_, by walk_at "gd", ed_is (ed_op (ed_slA (lo := none) (hi := some 6) (ed_op (ed_op (ed_var rfl) ed_int (rd_ixT rfl)) (ed_var rfl) (rd_ixT (at_rng hk))) eo_none (eo_some ed_int)) (ed_tupT (ea_cons (ed_tupL (el_ed (ed_lc1 (L := rows) (emb := intsD) (fun row => .int (row.getD k 0)) (EdI.weak (ei_list (by walk_at "ed"))) (by rw [hW.len]; omega) ?_))) ea_nil) (Nat.le_of_ble_eq_true rfl)) (rd_catT (Nat.le_of_ble_eq_true rfl) (fun z => by exact Nat.noConfusion (show (6 : Nat) = 0 from congrArg List.length z)) (fun z => by exact Nat.noConfusion (show (1 : Nat) = 0 from congrArg List.length z)))) ?_⟩
    · intro j row hrow
      have hl : k < row.length := by rw [hW.wid row (List.mem_of_getElem? hrow)]; exact hk
      exact ⟨_, by walk_at "gd", ed_op (ed_var rfl) (ed_var rfl) (rd_ixT (at_ints hl))⟩
    · rw [turned_site hk]
      have e1 : rows.map (fun row => PyData.int (row.getD k 0)) = ((List.range B.M).map fun m => rowX rows m k).map PyData.int := by
        refine List.ext_getElem? fun j => ?_
        rw [List.getElem?_map, List.getElem?_map, List.getElem?_map]
        by_cases hj : j < B.M
        · have hr : rows[j]? = some (rows[j]'(by rw [hW.len]; exact hj)) := List.getElem?_eq_getElem _
          rw [List.getElem?_range hj, hr]
          show some (PyData.int _) = some (PyData.int (rowX rows j k))
          unfold rowX
          rw [List.getD_eq_getElem?_getD (l := rows), hr]
          rfl
        · rw [List.getElem?_eq_none (by rw [hW.len]; omega), List.getElem?_eq_none (by rw [List.length_range]; omega)]
          rfl
      rw [e1]
      rfl
  refine sf_seq (sf_asgE (d := basinD (turned B (rowX rows))) (ed_is (ed_tupT (ea_cons (d := natD B.M) (by walk_at "ed") (ea_cons (ed_tupL (el_ed (ed_var rfl))) ea_nil)) (Nat.le_of_ble_eq_true rfl)) basin_turned.symm) ?_)
  -- the second season
  refine sf_seq (sf_closed (i := 1) (p := p) (dg := dg) (ds := [basinD B, rightsD R, .list (rows.map intsD)]) (R1 := fun d => ∃ recs, Run B R (rowX rows) recs ∧ recs.length = B.M ∧ d = planOf B R recs) rfl rfl (by walk_at "ed") rfl ⟨B, R, rows, hB, hR, hW, rfl, rfl⟩ ?_ ?_)
  · rintro _ ⟨recs, _, _, rfl⟩
    exact imm_plan B R recs
  rintro _ ⟨recs', hrun', hrl', rfl⟩
  have hpl' : ∀ m, m < (turned B (rowX rows)).M → MonthOk (turned B (rowX rows)) R (recD recs') (recRel recs') (recSto recs') m := fun m hm => hrun'.plan hB.ok hR.ok hx m (by rw [hrl']; exact hm)
  refine sf_seq (sf_if (b := false) (et_test (ed_op (ed_callT (d := .none) (by walk_at "ed") rfl ⟨turned B (rowX rows), R, recD recs', recRel recs', recSto recs', tB, tR, hpl', by unfold planOf; rw [plan_turned], rfl⟩) ed_non rd_notN)) (fun e => by cases e) fun _ => sf_next ?_)
  obtain ⟨bs, f1, L1⟩ := basin_led tB.ok tR.ok tB.M0
  have hbl : bs.length = R.length * B.M + B.n := by rw [L1.len, claims_len, turned_n]; rfl
  refine sf_seq (sf_asgE (d := listD bs) (ed_callT (by walk_at "ed") rfl ⟨turned B (rowX rows), R, tB, tR, rfl, by rw [law_most tB.ok tR.ok tB.M0 L1]⟩) ?_)
  refine sf_seq (sf_asgE ed_int ?_)
  -- the sums
  let tot : Nat → Int := fun i => sumL (List.range i) fun r => ((List.range B.M).map fun m => recD recs' r m).sum
  have most : ∀ k, k ≤ R.length → tot k ≤ (bs.take (k * B.M)).sum := fun k hk => by
    have h1 := plan_most tB.ok tR.ok tB.M0 L1 hpl' (k * B.M)
    have h2 := take_rows (B := turned B (rowX rows)) (R := R) (d := recD recs') (last := fun s => recSto recs' s ((turned B (rowX rows)).M - 1)) hk
    rw [show (turned B (rowX rows)).M = B.M from rfl] at h2
    rw [show (turned B (rowX rows)).M = B.M from rfl, h2] at h1
    exact h1
  refine sf_seq (sf_for (ei_rng1 (n := R.length) (ea_cons (ed_lenR (by walk_at "ed")) ea_nil) (by omega)) (fun i ρ1 => ∃ s, ρ1 = [.raw (.ref a), .box p dg, .dat (basinD B), .dat (rightsD R), .dat (planOf B R recs'), .dat (listD as), .dat (.list due), .dat (.list (rows.map intsD)), .dat (.list ((List.range B.n).map fun k => siteD k ((turned B (rowX rows)).site k))), .dat (basinD (turned B (rowX rows))), .dat (listD bs), .dat (.int (tot i)), s, .any, .any, .any, .any]) ⟨.any, rfl⟩ ?_ ?_)
  · rintro i r ρ1 hr ⟨s, rfl⟩
    obtain ⟨rfl, hr⟩ := rng_at hr
    have h1 := hmul (r + 1) hr
    refine ⟨_, gd_name (by decide), ?_⟩
    refine sf_seq (sf_asgE (d := .int (tot (r + 1))) (ed_isI (ed_op (ed_var rfl) (ed_sumT (ns := (List.range B.M).map fun m => recD recs' r m) (ed_is (ed_op (d := rowsD R.length B.M (recD recs')) (ed_op (d := planOf B R recs') (ed_var rfl) ed_int (rd_ixT rfl)) (ed_var rfl) (rd_ixT (at_rng hr))) ?_)) rd_add) ?_) ?_)
    · unfold intsD
      rw [List.map_map]
      rfl
    · exact (sumR_succ _ r).symm
    · refine sf_if (b := false) (et_is (et_test (ed_op (ed_var rfl) (ed_sumL (ns := bs.take ((r + 1) * B.M)) (el_ed (ed_is (ed_slL (lo := none) (hi := some (((r + 1) * B.M : Nat) : Int)) (ed_var rfl) eo_none (eo_some (ed_isI (ed_op (ed_op (ed_var rfl) ed_int rd_add) (by walk_at "ed") (rd_mul (.inl ⟨by omega, by omega⟩))) ?_))) ?_))) rd_gt)) ?_) (fun e => by cases e) fun _ => sf_next ⟨_, rfl⟩
      · rw [Int.natCast_mul, Int.natCast_add]
        rfl
      · rw [cut_first (by omega)]
      · have := most (r + 1) hr
        exact decide_eq_false (by omega)
  · rintro ρ1 ⟨s, rfl⟩
    exact sf_ret (R1 := fun d => d = .bool true) (ef_ed ed_bl rfl) fun d hd => hd
end HW
end
section
/-! HWNA: a law's months closed, walked. -/
namespace HW
open PySem PySem.Spec PyProof.Rows L2
local macro_rules | `(tactic| walk_at "ed") => `(tactic| repeat' (first
  | exact ed_int | exact ed_str | exact ed_bl | exact ed_non | exact ea_nil | exact eo_none
  | exact ed_var rfl
  | with_reducible apply ea_cons
  | with_reducible apply ed_op
  | with_reducible apply ed_un
  | with_reducible apply ed_tupT
  | with_reducible apply ed_lstT
  | with_reducible apply et_test
  | with_reducible apply et_B
  | with_reducible apply et_andC
  | with_reducible apply et_orC
  | with_reducible apply et_not
  | with_reducible apply eo_some
  | with_reducible apply ed_callT
  | exact rd_add | exact rd_sub | exact rd_lt | exact rd_le | exact rd_gt | exact rd_ge | exact rd_isN | exact rd_notN | exact ru_neg
  | exact rd_ixT rfl
  | exact rd_ixT (at_rng (by assumption))
  | exact rd_ixT (at_ints (by assumption))
  | exact rd_ixT (at_pred (by assumption))
  | (show List.length _ = _; exact rfl)
  | (show List.length _ ≤ 100000; exact Nat.le_of_ble_eq_true rfl)
  | apply ed_tupT))
local macro_rules | `(tactic| walk_at "gd") => `(tactic| repeat' (first | exact gd_name (by decide) | exact gs_nil | with_reducible apply gs_cons | refine' gd_tup ?_ rfl))
variable {P : Program} {w : World} {K : PySem.W.Frag} {mg : Str → Option Value} {base : Heap} {CA CN CS : Addr}
abbrev s__law_closed : Stmt := tp 67
theorem sc__law_closed : FnScope ["_law_basin_here", "_law_rights_here", "_law_rows", "_law_season", "_law_m", "_law_records", "_law_deliveries", "_law_releases", "_law_r", "_law_record", "_law_k"] ["_law_basin_here", "_law_rights_here", "_law_rows"] (defScope s__law_closed) := ⟨rfl, rfl, rfl, by decide +kernel, rfl, by decide +kernel, by decide +kernel⟩
theorem ok__law_closed {f : Addr} {fd : FuncData} (F : Fun K "_law_closed" "_law_closed" s__law_closed f fd) (T : Txt K mg CA CN CS)
    (I_Season : InF P w K mg base CS 1 "Season" ["self", "basin", "rights"] (spSeaI CS))
    (M_Season_close : MtF P w K mg base CS 10 "close" ["self", "inflows"] (spClose CS))
    (M_Season_records : MtF P w K mg base CS 1 "records" ["self"] (spRecords CS)) : FnOk P w K mg base CX0 11 f fd ["_law_basin_here", "_law_rights_here", "_law_rows"] (spC 3 d__law_closed) := by
  refine F.ok sc__law_closed (fun vs H Q E h => ?_) (fun cdv A outer s H vs Q E hr h => ?_)
  · exact spC_len h
  refine ⟨_, (pss_cons (ps_set (i := 3) sc__law_closed.nd rfl (Or.inl rfl) (pe_mk I_Season (hr.mono (by decide)) rfl (pa_cons (pv 0) (pa_cons (pv 1) pa_nil))))
 (pss_cons (ps_for PassesOwn.never rfl (pi_range1 rfl T.b_range (pa_cons (pe_ix (ix_tupK (K := K) rfl) (pv 0) pe_int (fun _ _ => rfl)) pa_nil)) (pg_name (i := 4) sc__law_closed.nd rfl (Or.inl rfl))
  (pss_one (ps_expr (pe_mt M_Season_close T.clS (hr.mono (by decide)) (pv 3) (pa_cons (pe_ix (ix_lisK (K := K) rfl) (pv 2) (pv 4) (fun _ _ => rfl)) pa_nil)))))
 (pss_cons (ps_set (i := 5) sc__law_closed.nd rfl (Or.inr rfl) (pe_mt0 M_Season_records T.clS (hr.mono (by decide)) (pv 3)))
 (pss_cons (ps_set (i := 6) sc__law_closed.nd rfl (Or.inl rfl) (pe_callTy (call_tupK (K := K) rfl) rfl T.b_tuple (by decide +kernel) (pa_cons (pe_lc  (own := [("_law_r", 8)]) rfl sc__law_closed.nd (pi_range1 rfl T.b_range (pa_cons (pe_callB (call_lenK (K := K) rfl) rfl T.b_len PySem.boot_len (pa_cons (pv 1) pa_nil)) pa_nil)) (blkOk_by (own := [("_law_r", 8)]) (N := ["_law_basin_here", "_law_rights_here", "_law_rows", "_law_season", "_law_m", "_law_records", "_law_deliveries", "_law_releases", "_law_r", "_law_record", "_law_k"]) (sc := (defScope s__law_closed)) (by decide +kernel))
   (fun _ _ _ _ _ => (pg_name (i := 8) sc__law_closed.nd rfl (Or.inr rfl)))
   (fun _ _ _ _ _ => pts_nil)
   (fun _ _ _ _ _ => (pe_callTy (call_tupK (K := K) rfl) rfl T.b_tuple (by decide +kernel) (pa_cons (pe_lc  (own := [("_law_record", 9)]) rfl sc__law_closed.nd (pi_tupK (K := K) rfl (pv 5)) (blkOk_by (own := [("_law_record", 9)]) (N := ["_law_basin_here", "_law_rights_here", "_law_rows", "_law_season", "_law_m", "_law_records", "_law_deliveries", "_law_releases", "_law_r", "_law_record", "_law_k"]) (sc := (relS _ (defScope s__law_closed))) (by decide +kernel))
   (fun _ _ _ _ _ => (pg_name (i := 9) sc__law_closed.nd rfl (Or.inl rfl)))
   (fun _ _ _ _ _ => pts_nil)
   (fun _ _ _ _ _ => (pe_ix (ix_tupK (K := K) rfl) (pe_ix (ix_tupK (K := K) rfl) (pv 9) pe_int (fun _ _ => rfl)) (pv 8) (fun _ _ => rfl)))) pa_nil)))) pa_nil)))
 (pss_cons (ps_set (i := 7) sc__law_closed.nd rfl (Or.inl rfl) (pe_callTy (call_tupK (K := K) rfl) rfl T.b_tuple (by decide +kernel) (pa_cons (pe_lc  (own := [("_law_k", 10)]) rfl sc__law_closed.nd (pi_range1 rfl T.b_range (pa_cons (pe_callB (call_lenK (K := K) rfl) rfl T.b_len PySem.boot_len (pa_cons (pe_ix (ix_tupK (K := K) rfl) (pv 0) pe_int (fun _ _ => rfl)) pa_nil)) pa_nil)) (blkOk_by (own := [("_law_k", 10)]) (N := ["_law_basin_here", "_law_rights_here", "_law_rows", "_law_season", "_law_m", "_law_records", "_law_deliveries", "_law_releases", "_law_r", "_law_record", "_law_k"]) (sc := (defScope s__law_closed)) (by decide +kernel))
   (fun _ _ _ _ _ => (pg_name (i := 10) sc__law_closed.nd rfl (Or.inr rfl)))
   (fun _ _ _ _ _ => pts_nil)
   (fun _ _ _ _ _ => (pe_callTy (call_tupK (K := K) rfl) rfl T.b_tuple (by decide +kernel) (pa_cons (pe_lc  (own := [("_law_record", 9)]) rfl sc__law_closed.nd (pi_tupK (K := K) rfl (pv 5)) (blkOk_by (own := [("_law_record", 9)]) (N := ["_law_basin_here", "_law_rights_here", "_law_rows", "_law_season", "_law_m", "_law_records", "_law_deliveries", "_law_releases", "_law_r", "_law_record", "_law_k"]) (sc := (relS _ (defScope s__law_closed))) (by decide +kernel))
   (fun _ _ _ _ _ => (pg_name (i := 9) sc__law_closed.nd rfl (Or.inl rfl)))
   (fun _ _ _ _ _ => pts_nil)
   (fun _ _ _ _ _ => (pe_ix (ix_tupK (K := K) rfl) (pe_ix (ix_tupK (K := K) rfl) (pv 9) pe_int (fun _ _ => rfl)) (pv 10) (fun _ _ => rfl)))) pa_nil)))) pa_nil)))
 (pss_one (ps_ret (pe_tup (pa_cons (pv 6) (pa_cons (pv 7) (pa_cons (pe_callTy (call_tupK (K := K) rfl) rfl T.b_tuple (by decide +kernel) (pa_cons (pe_lc  (own := [("_law_k", 10)]) rfl sc__law_closed.nd (pi_range1 rfl T.b_range (pa_cons (pe_callB (call_lenK (K := K) rfl) rfl T.b_len PySem.boot_len (pa_cons (pe_ix (ix_tupK (K := K) rfl) (pv 0) pe_int (fun _ _ => rfl)) pa_nil)) pa_nil)) (blkOk_by (own := [("_law_k", 10)]) (N := ["_law_basin_here", "_law_rights_here", "_law_rows", "_law_season", "_law_m", "_law_records", "_law_deliveries", "_law_releases", "_law_r", "_law_record", "_law_k"]) (sc := (defScope s__law_closed)) (by decide +kernel))
   (fun _ _ _ _ _ => (pg_name (i := 10) sc__law_closed.nd rfl (Or.inr rfl)))
   (fun _ _ _ _ _ => pts_nil)
   (fun _ _ _ _ _ => (pe_callTy (call_tupK (K := K) rfl) rfl T.b_tuple (by decide +kernel) (pa_cons (pe_lc  (own := [("_law_record", 9)]) rfl sc__law_closed.nd (pi_tupK (K := K) rfl (pv 5)) (blkOk_by (own := [("_law_record", 9)]) (N := ["_law_basin_here", "_law_rights_here", "_law_rows", "_law_season", "_law_m", "_law_records", "_law_deliveries", "_law_releases", "_law_r", "_law_record", "_law_k"]) (sc := (relS _ (defScope s__law_closed))) (by decide +kernel))
   (fun _ _ _ _ _ => (pg_name (i := 9) sc__law_closed.nd rfl (Or.inl rfl)))
   (fun _ _ _ _ _ => pts_nil)
   (fun _ _ _ _ _ => (pe_ix (ix_tupK (K := K) rfl) (pe_ix (ix_tupK (K := K) rfl) (pv 9) pe_int (fun _ _ => rfl)) (pv 10) (fun _ _ => rfl)))) pa_nil)))) pa_nil)) pa_nil))))))))))), ?_⟩
  obtain ⟨ds, R0, hds, hlen, ⟨B, R, rows, hB, hR, hW, rfl, rfl⟩, q⟩ := h
  obtain ⟨vb, vr, vw, rfl, hb, hr', hw⟩ := three hds
  have hM := hB.M
  have hn := hB.n
  -- season = Season(basin, rights)
  refine ⟨_, rfl, _, rfl, ?_⟩
  intro x nx nxn nnx ne
  have e0 : Ex H (upd (upd H nx (.own x)) x (.ins CS nx [])) := fun b o hb' => by
    rw [upd_ne (ne_of_none hb' nxn), upd_ne (ne_of_none hb' nnx)]
    exact hb'
  refine ⟨x, nx, vb, vr, B, R, rfl, upd_same, hb.mono e0, hr'.mono e0, fun lc ll H1 nlc nll S1 fr => ⟨rfl, ?_⟩⟩
  have e1 : Ex H H1 := fun b o hb' => fr b o (e0 b o hb') (ne_of_none hb' nxn)
  have nlc0 : H lc = none := Evl.fresh_back e0 nlc
  have nll0 : H ll = none := Evl.fresh_back e0 nll
  dsimp only
  -- for m in range(basin[0])
  have env : ∀ {H' : Hp} {s3 s4 s5 : Option V} {r3 r4 r5 : Sv}, Ex H H' → SvOk H' H' H' s3 r3 → SvOk H' H' H' s4 r4 → SvOk H' H' H' s5 r5 → EnvOk H' H' H' [some vb, some vr, some vw, s3, s4, s5, none, none, none, none, none] [.dat (basinD B), .dat (rightsD R), .dat (.list (rows.map intsD)), r3, r4, r5, .any, .any, .any, .any, .any] := fun e h3 h4 h5 =>
    ⟨⟨_, rfl, hb.mono e⟩, ⟨_, rfl, hr'.mono e⟩, ⟨_, rfl, hw.mono e⟩, h3, h4, h5, trivial, trivial, trivial, trivial, trivial, trivial⟩
  refine forR_at (env (s3 := some (.ref x)) (s4 := none) (s5 := none) (r3 := .any) (r4 := .any) (r5 := .any) e1 trivial trivial trivial) (n := B.M) (by exact (by walk_at "ed")) (by omega) (fun k σ1 H' => ∃ (fs : List FRec) (s4 : Option V), σ1 = [some vb, some vr, some vw, some (.ref x), s4, none, none, none, none, none, none] ∧ SeasonAt CS H' x nx vb vr lc ll B R fs ∧ Run B R (rowX rows) (recsOf fs) ∧ FsOk B R fs ∧ fs.length = k ∧ Ex H H')
    (fun H2 e2 => ⟨[], none, rfl, S1.ex e2, .nil, ⟨fun f hf => by simp at hf, fun f hf => by simp at hf, fun f hf => by simp at hf, Nat.zero_le _⟩, rfl, e1.trans e2⟩) (fun k σ1 H3 hk p => ?_) (fun σ1 H3 p => ?_)
  · obtain ⟨fs, s4, rfl, S3, hrun, hF, rfl, e3⟩ := p
    have rk : rows[fs.length]? = some (rows[fs.length]'(by rw [hW.len]; exact hk)) := List.getElem?_eq_getElem _
    have rm : rows[fs.length]'(by rw [hW.len]; exact hk) ∈ rows := List.getElem_mem _
    generalize rows[fs.length]'(by rw [hW.len]; exact hk) = xs at rk rm
    have xeq : rowX rows fs.length = fun s => xs.getD s 0 := by
      funext s
      unfold rowX
      rw [List.getD_eq_getElem?_getD (l := rows), rk]
      rfl
    have hrl : (recsOf fs).length = fs.length := by unfold recsOf; simp
    refine ⟨_, rfl, x, nx, _, rfl, S3.obj, sea_no (by decide +kernel) (by decide +kernel) (by decide +kernel) (by decide +kernel), ?_⟩
    refine ea_at (env (r3 := .any) (r4 := .dat (natD fs.length)) (r5 := .any) e3 trivial ⟨_, rfl, rfl⟩ trivial) (ds := [intsD xs]) (by exact ea_cons (ed_op (ed_var rfl) (ed_var rfl) (rd_ixL (at_int (k := fs.length) rfl (by rw [List.getElem?_map, rk]; rfl)))) ea_nil) _ fun vs H4 e4 hvs => ?_
    obtain ⟨vi, rfl⟩ : ∃ v, vs = [v] := by
      match vs, hvs with
      | [v], _ => exact ⟨v, rfl⟩
    have hvi : Dq H4 (intsD xs) vi := hvs.1
    refine ⟨x, nx, vb, vr, lc, ll, B, R, fs, vi, xs, rfl, S3.ex e4, hB, hR, hF, hrun.ok hB.ok hR.ok hW.x0, hk, hvi, hW.wid xs rm, hW.rng xs rm, fun as f sp v H5 L S5 kt fr5 => ?_⟩
    refine ⟨_, _, rfl, S5, ?_, ?_, by rw [List.length_append]; rfl, fun b o hb' => ?_⟩
    · have hx' : rowX rows (recsOf fs).length = fun s => xs.getD s 0 := by rw [hrl, xeq]
      have h1 := hrun.snoc (as := as) (f := f) (by rw [hrl]; exact hk) (by rw [hx']; exact L)
      rw [hx'] at h1
      have h2 : ∀ r, recsOf (fs ++ [(⟨xs, r, sp⟩ : FRec)]) = recsOf fs ++ [r] := fun r => by
        unfold recsOf
        rw [List.map_append]
        rfl
      rw [h2]
      exact h1
    · have hn1 : (restB B (recsOf fs) fun s => xs.getD s 0).n = B.n := rest_n
      have hl1 : (restR R (recsOf fs).length).length = R.length := restR_len _
      refine ⟨fun g hg => ?_, fun g hg => ?_, fun g hg => ?_, by rw [List.length_append]; exact hk⟩
      · rcases List.mem_append.mp hg with hg | hg
        · exact hF.rel g hg
        · cases List.mem_singleton.mp hg
          show ((List.range _).map _).length = _
          rw [List.length_map, List.length_range, hn1]
      · rcases List.mem_append.mp hg with hg | hg
        · exact hF.sto g hg
        · cases List.mem_singleton.mp hg
          show ((List.range _).map _).length = _
          rw [List.length_map, List.length_range, hn1]
      · rcases List.mem_append.mp hg with hg | hg
        · exact hF.d g hg
        · cases List.mem_singleton.mp hg
          show ((List.range _).map _).length = _
          rw [List.length_map, List.length_range, hl1]
    · exact fr5 b o (e4 _ _ (e3 _ _ hb')) (ne_of_none hb' nlc0) (ne_of_none hb' nll0)
  · obtain ⟨fs, s4, rfl, S3, hrun, hF, hfl, e3⟩ := p
    refine ⟨_, rfl, x, nx, _, rfl, S3.obj, sea_no (by decide +kernel) (by decide +kernel) (by decide +kernel) (by decide +kernel), x, nx, vb, vr, lc, ll, B, R, fs, rfl, S3, fun v5 H5 e5 hv5 => ?_⟩
    have E5 : Eok H5 H5 H5 H5 [some vb, some vr, some vw, some (.ref x), s4, some v5, none, none, none, none, none] [.dat (basinD B), .dat (rightsD R), .dat (.list (rows.map intsD)), .any, .any, .dat (.tuple (fs.map frecD)), .any, .any, .any, .any, .any] := ⟨.refl .rfl', env (e3.trans e5) trivial trivial ⟨_, rfl, hv5⟩⟩
    dsimp only
    show tSeq _ _ _ [some vb, some vr, some vw, some (.ref x), s4, some v5, none, none, none, none, none] H5
    refine sd_end E5 (R := fun e => e = planOf B R (recsOf fs)) ?_ fun e v H1 H2 he l hz => (by exact q e v H2 ⟨recsOf fs, hrun, by unfold recsOf; rw [List.length_map, hfl], he⟩ ((e3.trans e5).trans l.t) (hz.mono l.w))
    have row : ∀ (g : FRec → Int) (g' : Nat → Int), (∀ k f, fs[k]? = some f → g' k = g f) → fs.map (fun f => PyData.int (g f)) = (List.range B.M).map fun m => .int (g' m) := fun g g' hg => by
      apply List.ext_getElem?
      intro k
      rw [List.getElem?_map, List.getElem?_map]
      by_cases hk : k < fs.length
      · rw [List.getElem?_eq_getElem hk, List.getElem?_range (by omega)]
        exact congrArg (fun z => some (PyData.int z)) (hg k _ (List.getElem?_eq_getElem hk)).symm
      · rw [List.getElem?_eq_none (by omega), List.getElem?_eq_none (by rw [List.length_range]; omega)]
        rfl
    have rD : ∀ r, fs.map (fun f => PyData.int (f.r.d.getD r 0)) = (List.range B.M).map fun m => .int (recD (recsOf fs) r m) := fun r => row _ _ fun k f h => (recs_at h r).2.2
    have rR : ∀ r, fs.map (fun f => PyData.int (f.r.rel.getD r 0)) = (List.range B.M).map fun m => .int (recRel (recsOf fs) r m) := fun r => row _ _ fun k f h => (recs_at h r).1
    have rS : ∀ r, fs.map (fun f => PyData.int (f.r.sto.getD r 0)) = (List.range B.M).map fun m => .int (recSto (recsOf fs) r m) := fun r => row _ _ fun k f h => (recs_at h r).2.1
    refine sd_seq (sd_asg (d := rowsD R.length B.M (recD (recsOf fs))) (ed_tupL (el_ed (ed_lc1 (L := List.range R.length) (emb := fun i => .int (i : Nat)) (fun r => .tuple ((List.range B.M).map fun m => .int (recD (recsOf fs) r m))) (EdI.weak (ei_rng1 (n := R.length) (ea_cons (ed_lenR (by walk_at "ed")) ea_nil) (by have := hR.len; omega))) (by have := hR.len; simp; omega) ?_))) ?_)
    · intro i r hr2
      obtain ⟨rfl, hr2⟩ := rng_at hr2
      refine ⟨_, by walk_at "gd", ed_is (ed_tupL (el_ed (ed_lc1 (L := fs) (emb := frecD) (fun f => .int (f.r.d.getD r 0)) (EdI.weak (ei_tup (by walk_at "ed"))) (by omega) ?_))) (by rw [rD])⟩
      intro j f hf
      have h2 : r < f.r.d.length := by rw [hF.d f (List.mem_of_getElem? hf)]; exact hr2
      exact ⟨_, by walk_at "gd", ed_op (ed_op (ed_var rfl) ed_int (rd_ixT rfl)) (ed_var rfl) (rd_ixT (at_ints h2))⟩
    refine sd_seq (sd_asg (d := rowsD B.n B.M (recRel (recsOf fs))) (ed_tupL (el_ed (ed_lc1 (L := List.range B.n) (emb := fun i => .int (i : Nat)) (fun r => .tuple ((List.range B.M).map fun m => .int (recRel (recsOf fs) r m))) (EdI.weak (ei_rng1 (n := B.n) (ea_cons (ed_lenR (by walk_at "ed")) ea_nil) (by omega))) (by simp; omega) ?_))) ?_)
    · intro i r hr2
      obtain ⟨rfl, hr2⟩ := rng_at hr2
      refine ⟨_, by walk_at "gd", ed_is (ed_tupL (el_ed (ed_lc1 (L := fs) (emb := frecD) (fun f => .int (f.r.rel.getD r 0)) (EdI.weak (ei_tup (by walk_at "ed"))) (by omega) ?_))) (by rw [rR])⟩
      intro j f hf
      have h2 : r < f.r.rel.length := by rw [hF.rel f (List.mem_of_getElem? hf)]; exact hr2
      exact ⟨_, by walk_at "gd", ed_op (ed_op (ed_var rfl) ed_int (rd_ixT rfl)) (ed_var rfl) (rd_ixT (at_ints h2))⟩
    refine sd_ret (d := planOf B R (recsOf fs)) (ed_tupT (ea_cons (ed_var rfl) (ea_cons (ed_var rfl) (ea_cons (ed_tupL (el_ed (ed_lc1 (L := List.range B.n) (emb := fun i => .int (i : Nat)) (fun r => .tuple ((List.range B.M).map fun m => .int (recSto (recsOf fs) r m))) (EdI.weak (ei_rng1 (n := B.n) (ea_cons (ed_lenR (by walk_at "ed")) ea_nil) (by omega))) (by simp; omega) ?_))) ea_nil))) (Nat.le_of_ble_eq_true rfl)) rfl
    · intro i r hr2
      obtain ⟨rfl, hr2⟩ := rng_at hr2
      refine ⟨_, by walk_at "gd", ed_is (ed_tupL (el_ed (ed_lc1 (L := fs) (emb := frecD) (fun f => .int (f.r.sto.getD r 0)) (EdI.weak (ei_tup (by walk_at "ed"))) (by omega) ?_))) (by rw [rS])⟩
      intro j f hf
      have h2 : r < f.r.sto.length := by rw [hF.sto f (List.mem_of_getElem? hf)]; exact hr2
      exact ⟨_, by walk_at "gd", ed_op (ed_op (ed_var rfl) ed_int (rd_ixT rfl)) (ed_var rfl) (rd_ixT (at_ints h2))⟩
end HW
end
section
/-! HWEnd: every def's promise put together. -/
namespace HW
open PySem PySem.Spec PyProof.Rows L2
section
variable {K : PySem.W.Frag} {h : Heap} {mg : Str → Option Value}
theorem getG (c : He.SaysE hfa hfn K) (X : K.In h) (G : h.Ns mainGlobals mg) {x : Str} {st : Stmt} (i j k : Nat) (hi : hfn[i]? = some (dG x st)) (hj : hfa[j]? = some (.glo x)) (hk : hfa[k]? = some (.keep x)) :
    ∃ f fd, Fun K x x st f fd ∧ mg x = some (.ref f) ∧ PySem.W.keepIn K (.ref f) = true := by
  obtain ⟨oc, od, osl, kV, doc, pm, an, cdv, ct, lk, hc⟩ := c.def_ i (d := dG x st) hi
  have kp : PySem.W.keepIn K (.ref (He.ga K x)) = true := c.fact k hk
  exact ⟨He.ga K x, _, fun_mk (st := st) lk hc kp, He.glo_ok X G (c.fact j hj), kp⟩
theorem getM (c : He.SaysE hfa hfn K) {C m qual : Str} {st : Stmt} (i j : Nat) (hi : hfn[i]? = some (dM C m qual st)) (hj : hfa[j]? = some (.meth C m)) :
    ∃ fd, Fun K m qual st (He.ma K (He.ga K C) m) fd ∧ Meth K (He.ga K C) m (He.ma K (He.ga K C) m) := by
  obtain ⟨oc, od, osl, kV, doc, pm, an, cdv, ct, lk, hc⟩ := c.def_ i (d := dM C m qual st) hi
  have M := He.meth_ok (c.fact j hj)
  have kp : PySem.W.keepIn K (.ref (He.ma K (He.ga K C) m)) = true := (He.ba (He.ba (show (_ && (_ && _)) = true from c.fact j hj)).2).2
  exact ⟨_, fun_mk (st := st) lk hc kp, M⟩
theorem txt_of (c : He.SaysE hfa hfn K) (X : K.In h) (G : h.Ns mainGlobals mg) : Txt K mg (He.ga K "Arc") (He.ga K "Network") (He.ga K "Season") := by
  have ki : ∀ {x : Str} {i : Int} (j : Nat), hfa[j]? = some (.int x i) → Kon mg x (.int i) := fun j hj => by
    obtain ⟨t, ht⟩ := He.int_ok X G (c.fact j hj)
    exact ⟨_, ht, t, rfl⟩
  have ks : ∀ {x z : Str} (j : Nat), hfa[j]? = some (.str x z) → Kon mg x (.str z) := fun j hj => by
    obtain ⟨t, ht⟩ := He.str_ok X G (c.fact j hj)
    exact ⟨_, ht, t, rfl⟩
  exact {
    AMOUNT_MOST := ki 0 rfl
    NAME := ki 1 rfl
    NEXT := ki 2 rfl
    TRAVEL := ki 3 rfl
    REACH := ki 4 rfl
    ROOM := ki 5 rfl
    HELD := ki 6 rfl
    INFLOWS := ki 7 rfl
    RECORD_RELEASES := ki 8 rfl
    RECORD_STORAGES := ki 9 rfl
    SOURCE := ks 10 rfl
    b_len := He.free_ok X G (c.fact 11 rfl)
    b_range := He.free_ok X G (c.fact 12 rfl)
    b_tuple := He.free_ok X G (c.fact 13 rfl)
    b_list := He.free_ok X G (c.fact 14 rfl)
    b_int := He.free_ok X G (c.fact 15 rfl)
    b_bool := He.free_ok X G (c.fact 16 rfl)
    b_str := He.free_ok X G (c.fact 17 rfl)
    b_min := He.free_ok X G (c.fact 18 rfl)
    b_sum := He.free_ok X G (c.fact 19 rfl)
    b_isinstance := He.free_ok X G (c.fact 20 rfl)
    b_enumerate := He.free_ok X G (c.fact 21 rfl)
    b_zip := He.free_ok X G (c.fact 22 rfl)
    clA := He.cls_ok (c.fact 23 rfl)
    clN := He.cls_ok (c.fact 26 rfl)
    clS := He.cls_ok (c.fact 29 rfl)
    a_tail := He.noat_ok (c.fact 32 rfl)
    a_head := He.noat_ok (c.fact 33 rfl)
    a_most := He.noat_ok (c.fact 34 rfl)
    a_flow := He.noat_ok (c.fact 35 rfl)
    a_is_fixed := He.noat_ok (c.fact 36 rfl)
    n_basin := He.noat_ok (c.fact 37 rfl)
    n_storages := He.noat_ok (c.fact 38 rfl)
    n_releases := He.noat_ok (c.fact 39 rfl)
    n_arcs := He.noat_ok (c.fact 40 rfl)
    s_basin := He.noat_ok (c.fact 41 rfl)
    s_rights := He.noat_ok (c.fact 42 rfl)
    s_closed := He.noat_ok (c.fact 43 rfl)
    s_lines := He.noat_ok (c.fact 44 rfl) }
end
section
variable {P : Program} {w : World} {K : PySem.W.Frag} {h : Heap} {mg : Str → Option Value} {base : Heap}
theorem core (c : He.SaysE hfa hfn K) (X : K.In h) (G : h.Ns mainGlobals mg) {f : Addr} {fd : FuncData} (F : Fun K "law" "law" s_law f fd) : FnOk P w K mg base CX0 12 f fd ["_law_script"] (spLaw K) := by
  have T := txt_of c X G
  have G__law_draw : FnF P w K mg base 1 "_law_draw" ["_law_box", "_law_many"] (spB 1 d__law_draw) := by
    obtain ⟨f, fd, F, hm, kp⟩ := getG c X G (x := "_law_draw") (st := s__law_draw) 0 45 46 rfl rfl rfl
    exact ⟨f, fd, ok__law_draw F T , hm, kp, F.binds (ps := ["_law_box", "_law_many"]) fun _ _ _ _ _ _ us hl => match us, hl with | [_, _], _ => rfl⟩
  have G__law_basin : FnF P w K mg base 2 "_law_basin" ["_law_box"] (spB 0 d__law_basin) := by
    obtain ⟨f, fd, F, hm, kp⟩ := getG c X G (x := "_law_basin") (st := s__law_basin) 1 47 48 rfl rfl rfl
    exact ⟨f, fd, ok__law_basin F T G__law_draw, hm, kp, F.binds (ps := ["_law_box"]) fun _ _ _ _ _ _ us hl => match us, hl with | [_], _ => rfl⟩
  have I_Season : InF P w K mg base (He.ga K "Season") 1 "Season" ["self", "basin", "rights"] (spSeaI (He.ga K "Season")) := by
    obtain ⟨fd, F, M⟩ := getM c (C := "Season") (m := "__init__") (qual := "Season.__init__") (st := s_Season___init__) 2 49 rfl rfl
    exact ⟨_, fd, ok_Season___init__ F T , He.mkr_ok (c.fact 31 rfl), He.glo_ok X G (c.fact 30 rfl), F.binds (ps := ["self", "basin", "rights"]) fun _ _ _ _ _ _ us hl => match us, hl with | [_, _, _], _ => rfl⟩
  have G_are_inflows : FnF P w K mg base 1 "are_inflows" ["basin", "inflows"] (spD 2 d_are_inflows) := by
    obtain ⟨f, fd, F, hm, kp⟩ := getG c X G (x := "are_inflows") (st := s_are_inflows) 3 50 51 rfl rfl rfl
    exact ⟨f, fd, ok_are_inflows F T , hm, kp, F.binds (ps := ["basin", "inflows"]) fun _ _ _ _ _ _ us hl => match us, hl with | [_, _], _ => rfl⟩
  have G_firsts : FnF P w K mg base 1 "firsts" ["rows"] (spD 1 d_firsts) := by
    obtain ⟨f, fd, F, hm, kp⟩ := getG c X G (x := "firsts") (st := s_firsts) 4 52 53 rfl rfl rfl
    exact ⟨f, fd, ok_firsts F T , hm, kp, F.binds (ps := ["rows"]) fun _ _ _ _ _ _ us hl => match us, hl with | [_], _ => rfl⟩
  have G_numbers_text : FnF P w K mg base 1 "numbers_text" ["numbers"] (spD 1 d_numbers_text) := by
    obtain ⟨f, fd, F, hm, kp⟩ := getG c X G (x := "numbers_text") (st := s_numbers_text) 5 54 55 rfl rfl rfl
    exact ⟨f, fd, ok_numbers_text F T , hm, kp, F.binds (ps := ["numbers"]) fun _ _ _ _ _ _ us hl => match us, hl with | [_], _ => rfl⟩
  have G_cells : FnF P w K mg base 1 "cells" ["basin"] (spD 1 d_cells) := by
    obtain ⟨f, fd, F, hm, kp⟩ := getG c X G (x := "cells") (st := s_cells) 6 56 57 rfl rfl rfl
    exact ⟨f, fd, ok_cells F T , hm, kp, F.binds (ps := ["basin"]) fun _ _ _ _ _ _ us hl => match us, hl with | [_], _ => rfl⟩
  have G_claims : FnF P w K mg base 1 "claims" ["basin", "rights"] (spD 2 d_claims) := by
    obtain ⟨f, fd, F, hm, kp⟩ := getG c X G (x := "claims") (st := s_claims) 7 58 59 rfl rfl rfl
    exact ⟨f, fd, ok_claims F T , hm, kp, F.binds (ps := ["basin", "rights"]) fun _ _ _ _ _ _ us hl => match us, hl with | [_, _], _ => rfl⟩
  have G_site_number : FnF P w K mg base 1 "site_number" ["basin", "name"] (spD 2 d_site_number) := by
    obtain ⟨f, fd, F, hm, kp⟩ := getG c X G (x := "site_number") (st := s_site_number) 8 60 61 rfl rfl rfl
    exact ⟨f, fd, ok_site_number F T , hm, kp, F.binds (ps := ["basin", "name"]) fun _ _ _ _ _ _ us hl => match us, hl with | [_, _], _ => rfl⟩
  have G_claim_cell : FnF P w K mg base 2 "claim_cell" ["basin", "rights", "claim"] (spD 3 d_claim_cell) := by
    obtain ⟨f, fd, F, hm, kp⟩ := getG c X G (x := "claim_cell") (st := s_claim_cell) 9 62 63 rfl rfl rfl
    exact ⟨f, fd, ok_claim_cell F T G_site_number, hm, kp, F.binds (ps := ["basin", "rights", "claim"]) fun _ _ _ _ _ _ us hl => match us, hl with | [_, _, _], _ => rfl⟩
  have G_claim_size : FnF P w K mg base 1 "claim_size" ["basin", "rights", "claim"] (spD 3 d_claim_size) := by
    obtain ⟨f, fd, F, hm, kp⟩ := getG c X G (x := "claim_size") (st := s_claim_size) 10 64 65 rfl rfl rfl
    exact ⟨f, fd, ok_claim_size F T , hm, kp, F.binds (ps := ["basin", "rights", "claim"]) fun _ _ _ _ _ _ us hl => match us, hl with | [_, _, _], _ => rfl⟩
  have G_cell_supply : FnF P w K mg base 1 "cell_supply" ["basin", "cell"] (spD 2 d_cell_supply) := by
    obtain ⟨f, fd, F, hm, kp⟩ := getG c X G (x := "cell_supply") (st := s_cell_supply) 11 66 67 rfl rfl rfl
    exact ⟨f, fd, ok_cell_supply F T , hm, kp, F.binds (ps := ["basin", "cell"]) fun _ _ _ _ _ _ us hl => match us, hl with | [_, _], _ => rfl⟩
  have G_let_to : FnF P w K mg base 2 "let_to" ["basin", "cell"] (spD 2 d_let_to) := by
    obtain ⟨f, fd, F, hm, kp⟩ := getG c X G (x := "let_to") (st := s_let_to) 12 68 69 rfl rfl rfl
    exact ⟨f, fd, ok_let_to F T G_site_number, hm, kp, F.binds (ps := ["basin", "cell"]) fun _ _ _ _ _ _ us hl => match us, hl with | [_, _], _ => rfl⟩
  have I_Arc : InF P w K mg base (He.ga K "Arc") 1 "Arc" ["self", "tail", "head", "most"] (spArcI (He.ga K "Arc")) := by
    obtain ⟨fd, F, M⟩ := getM c (C := "Arc") (m := "__init__") (qual := "Arc.__init__") (st := s_Arc___init__) 13 70 rfl rfl
    exact ⟨_, fd, ok_Arc___init__ F T , He.mkr_ok (c.fact 25 rfl), He.glo_ok X G (c.fact 24 rfl), F.binds (ps := ["self", "tail", "head", "most"]) fun _ _ _ _ _ _ us hl => match us, hl with | [_, _, _, _], _ => rfl⟩
  have M_Network_add : MtF P w K mg base (He.ga K "Network") 3 "add" ["self", "tail", "head", "most"] (spAdd (He.ga K "Arc") (He.ga K "Network")) := by
    obtain ⟨fd, F, M⟩ := getM c (C := "Network") (m := "add") (qual := "Network.add") (st := s_Network_add) 14 71 rfl rfl
    exact ⟨_, fd, ok_Network_add F T I_Arc, M, F.binds (ps := ["self", "tail", "head", "most"]) fun _ _ _ _ _ _ us hl => match us, hl with | [_, _, _, _], _ => rfl⟩
  have I_Network : InF P w K mg base (He.ga K "Network") 4 "Network" ["self", "basin"] (spNetI (He.ga K "Arc") (He.ga K "Network")) := by
    obtain ⟨fd, F, M⟩ := getM c (C := "Network") (m := "__init__") (qual := "Network.__init__") (st := s_Network___init__) 15 72 rfl rfl
    exact ⟨_, fd, ok_Network___init__ F T G_cell_supply G_cells G_let_to M_Network_add, He.mkr_ok (c.fact 28 rfl), He.glo_ok X G (c.fact 27 rfl), F.binds (ps := ["self", "basin"]) fun _ _ _ _ _ _ us hl => match us, hl with | [_, _], _ => rfl⟩
  have G_least : FnF P w K mg base 1 "least" ["one", "other"] (spD 2 d_least) := by
    obtain ⟨f, fd, F, hm, kp⟩ := getG c X G (x := "least") (st := s_least) 16 73 74 rfl rfl rfl
    exact ⟨f, fd, ok_least F T , hm, kp, F.binds (ps := ["one", "other"]) fun _ _ _ _ _ _ us hl => match us, hl with | [_, _], _ => rfl⟩
  have M_Arc_ahead : MtF P w K mg base (He.ga K "Arc") 1 "ahead" ["self"] (spAhead (He.ga K "Arc")) := by
    obtain ⟨fd, F, M⟩ := getM c (C := "Arc") (m := "ahead") (qual := "Arc.ahead") (st := s_Arc_ahead) 17 75 rfl rfl
    exact ⟨_, fd, ok_Arc_ahead F T , M, F.binds (ps := ["self"]) fun _ _ _ _ _ _ us hl => match us, hl with | [_], _ => rfl⟩
  have M_Arc_back : MtF P w K mg base (He.ga K "Arc") 1 "back" ["self"] (spBack (He.ga K "Arc")) := by
    obtain ⟨fd, F, M⟩ := getM c (C := "Arc") (m := "back") (qual := "Arc.back") (st := s_Arc_back) 18 76 rfl rfl
    exact ⟨_, fd, ok_Arc_back F T , M, F.binds (ps := ["self"]) fun _ _ _ _ _ _ us hl => match us, hl with | [_], _ => rfl⟩
  have M_Network_steps : MtF P w K mg base (He.ga K "Network") 2 "steps" ["self", "place"] (spSteps (He.ga K "Arc") (He.ga K "Network")) := by
    obtain ⟨fd, F, M⟩ := getM c (C := "Network") (m := "steps") (qual := "Network.steps") (st := s_Network_steps) 19 77 rfl rfl
    exact ⟨_, fd, ok_Network_steps F T M_Arc_ahead M_Arc_back, M, F.binds (ps := ["self", "place"]) fun _ _ _ _ _ _ us hl => match us, hl with | [_, _], _ => rfl⟩
  have M_Network_steps_back : MtF P w K mg base (He.ga K "Network") 1 "steps_back" ["self", "reached", "end"] (spBackW w (He.ga K "Arc") (He.ga K "Network")) := by
    obtain ⟨fd, F, M⟩ := getM c (C := "Network") (m := "steps_back") (qual := "Network.steps_back") (st := s_Network_steps_back) 20 78 rfl rfl
    exact ⟨_, fd, ok_Network_steps_back F T , M, F.binds (ps := ["self", "reached", "end"]) fun _ _ _ _ _ _ us hl => match us, hl with | [_, _, _], _ => rfl⟩
  have M_Network_way : MtF P w K mg base (He.ga K "Network") 3 "way" ["self", "begin", "end"] (spWay (He.ga K "Arc") (He.ga K "Network")) := by
    obtain ⟨fd, F, M⟩ := getM c (C := "Network") (m := "way") (qual := "Network.way") (st := s_Network_way) 21 79 rfl rfl
    exact ⟨_, fd, ok_Network_way F T M_Network_steps M_Network_steps_back, M, F.binds (ps := ["self", "begin", "end"]) fun _ _ _ _ _ _ us hl => match us, hl with | [_, _, _], _ => rfl⟩
  have M_Network_push : MtF P w K mg base (He.ga K "Network") 4 "push" ["self", "begin", "end", "most"] (spPush (He.ga K "Arc") (He.ga K "Network")) := by
    obtain ⟨fd, F, M⟩ := getM c (C := "Network") (m := "push") (qual := "Network.push") (st := s_Network_push) 22 80 rfl rfl
    exact ⟨_, fd, ok_Network_push F T G_least M_Network_way, M, F.binds (ps := ["self", "begin", "end", "most"]) fun _ _ _ _ _ _ us hl => match us, hl with | [_, _, _, _], _ => rfl⟩
  have G_led : FnF P w K mg base 6 "led" ["basin", "rights", "many"] (spLed (He.ga K "Arc") (He.ga K "Network")) := by
    obtain ⟨f, fd, F, hm, kp⟩ := getG c X G (x := "led") (st := s_led) 23 81 82 rfl rfl rfl
    exact ⟨f, fd, ok_led F T G_claim_cell G_claim_size G_claims I_Network M_Network_push, hm, kp, F.binds (ps := ["basin", "rights", "many"]) fun _ _ _ _ _ _ us hl => match us, hl with | [_, _, _], _ => rfl⟩
  have G_lessen : FnF P w K mg base 5 "lessen" ["network", "arc"] (spLessen (He.ga K "Arc") (He.ga K "Network")) := by
    obtain ⟨f, fd, F, hm, kp⟩ := getG c X G (x := "lessen") (st := s_lessen) 24 83 84 rfl rfl rfl
    exact ⟨f, fd, ok_lessen F T M_Network_push, hm, kp, F.binds (ps := ["network", "arc"]) fun _ _ _ _ _ _ us hl => match us, hl with | [_, _], _ => rfl⟩
  have G_rows_of : FnF P w K mg base 1 "rows_of" ["basin", "amounts"] spRows := by
    obtain ⟨f, fd, F, hm, kp⟩ := getG c X G (x := "rows_of") (st := s_rows_of) 25 85 86 rfl rfl rfl
    exact ⟨f, fd, ok_rows_of F T , hm, kp, F.binds (ps := ["basin", "amounts"]) fun _ _ _ _ _ _ us hl => match us, hl with | [_, _], _ => rfl⟩
  have G_operation : FnF P w K mg base 7 "operation" ["basin", "rights"] spOperation := by
    obtain ⟨f, fd, F, hm, kp⟩ := getG c X G (x := "operation") (st := s_operation) 26 87 88 rfl rfl rfl
    exact ⟨f, fd, ok_operation F T G_cells G_claims G_led G_lessen G_rows_of, hm, kp, F.binds (ps := ["basin", "rights"]) fun _ _ _ _ _ _ us hl => match us, hl with | [_, _], _ => rfl⟩
  have G_arriving : FnF P w K mg base 2 "arriving" ["basin", "records", "number", "month"] (spD 4 d_arriving) := by
    obtain ⟨f, fd, F, hm, kp⟩ := getG c X G (x := "arriving") (st := s_arriving) 27 89 90 rfl rfl rfl
    exact ⟨f, fd, ok_arriving F T G_site_number, hm, kp, F.binds (ps := ["basin", "records", "number", "month"]) fun _ _ _ _ _ _ us hl => match us, hl with | [_, _, _, _], _ => rfl⟩
  have G_rest_site : FnF P w K mg base 3 "rest_site" ["basin", "records", "number", "inflow"] (spD 4 d_rest_site) := by
    obtain ⟨f, fd, F, hm, kp⟩ := getG c X G (x := "rest_site") (st := s_rest_site) 28 91 92 rfl rfl rfl
    exact ⟨f, fd, ok_rest_site F T G_arriving, hm, kp, F.binds (ps := ["basin", "records", "number", "inflow"]) fun _ _ _ _ _ _ us hl => match us, hl with | [_, _, _, _], _ => rfl⟩
  have G_rest_of : FnF P w K mg base 4 "rest_of" ["basin", "records", "inflows"] (spD 3 d_rest_of) := by
    obtain ⟨f, fd, F, hm, kp⟩ := getG c X G (x := "rest_of") (st := s_rest_of) 29 93 94 rfl rfl rfl
    exact ⟨f, fd, ok_rest_of F T G_rest_site, hm, kp, F.binds (ps := ["basin", "records", "inflows"]) fun _ _ _ _ _ _ us hl => match us, hl with | [_, _, _], _ => rfl⟩
  have G_rest_rights : FnF P w K mg base 1 "rest_rights" ["rights", "begun"] (spD 2 d_rest_rights) := by
    obtain ⟨f, fd, F, hm, kp⟩ := getG c X G (x := "rest_rights") (st := s_rest_rights) 30 95 96 rfl rfl rfl
    exact ⟨f, fd, ok_rest_rights F T , hm, kp, F.binds (ps := ["rights", "begun"]) fun _ _ _ _ _ _ us hl => match us, hl with | [_, _], _ => rfl⟩
  have G_let_from : FnF P w K mg base 3 "let_from" ["basin", "cell"] (spD 2 d_let_from) := by
    obtain ⟨f, fd, F, hm, kp⟩ := getG c X G (x := "let_from") (st := s_let_from) 31 97 98 rfl rfl rfl
    exact ⟨f, fd, ok_let_from F T G_cells G_let_to, hm, kp, F.binds (ps := ["basin", "cell"]) fun _ _ _ _ _ _ us hl => match us, hl with | [_, _], _ => rfl⟩
  have G_received : FnF P w K mg base 4 "received" ["basin", "plan", "cell"] (spD 3 d_received) := by
    obtain ⟨f, fd, F, hm, kp⟩ := getG c X G (x := "received") (st := s_received) 32 99 100 rfl rfl rfl
    exact ⟨f, fd, ok_received F T G_cell_supply G_let_from, hm, kp, F.binds (ps := ["basin", "plan", "cell"]) fun _ _ _ _ _ _ us hl => match us, hl with | [_, _, _], _ => rfl⟩
  have G_spill : FnF P w K mg base 5 "spill" ["basin", "rights", "plan", "cell"] (spD 4 d_spill) := by
    obtain ⟨f, fd, F, hm, kp⟩ := getG c X G (x := "spill") (st := s_spill) 33 101 102 rfl rfl rfl
    exact ⟨f, fd, ok_spill F T G_received G_site_number, hm, kp, F.binds (ps := ["basin", "rights", "plan", "cell"]) fun _ _ _ _ _ _ us hl => match us, hl with | [_, _, _, _], _ => rfl⟩
  have G_cell_fault : FnF P w K mg base 6 "cell_fault" ["basin", "rights", "plan", "cell"] (spD 4 d_cell_fault) := by
    obtain ⟨f, fd, F, hm, kp⟩ := getG c X G (x := "cell_fault") (st := s_cell_fault) 34 103 104 rfl rfl rfl
    exact ⟨f, fd, ok_cell_fault F T G_spill, hm, kp, F.binds (ps := ["basin", "rights", "plan", "cell"]) fun _ _ _ _ _ _ us hl => match us, hl with | [_, _, _, _], _ => rfl⟩
  have G_month_fault : FnF P w K mg base 7 "month_fault" ["basin", "rights", "plan", "month"] (spD 4 d_month_fault) := by
    obtain ⟨f, fd, F, hm, kp⟩ := getG c X G (x := "month_fault") (st := s_month_fault) 35 105 106 rfl rfl rfl
    exact ⟨f, fd, ok_month_fault F T G_cell_fault, hm, kp, F.binds (ps := ["basin", "rights", "plan", "month"]) fun _ _ _ _ _ _ us hl => match us, hl with | [_, _, _, _], _ => rfl⟩
  have G_plan_fault : FnF P w K mg base 8 "plan_fault" ["basin", "rights", "plan"] (spD 3 d_plan_fault) := by
    obtain ⟨f, fd, F, hm, kp⟩ := getG c X G (x := "plan_fault") (st := s_plan_fault) 36 107 108 rfl rfl rfl
    exact ⟨f, fd, ok_plan_fault F T G_month_fault, hm, kp, F.binds (ps := ["basin", "rights", "plan"]) fun _ _ _ _ _ _ us hl => match us, hl with | [_, _, _], _ => rfl⟩
  have G_spills : FnF P w K mg base 9 "spills" ["basin", "rights", "plan"] (spD 3 d_spills) := by
    obtain ⟨f, fd, F, hm, kp⟩ := getG c X G (x := "spills") (st := s_spills) 37 109 110 rfl rfl rfl
    exact ⟨f, fd, ok_spills F T G_cells G_plan_fault G_spill, hm, kp, F.binds (ps := ["basin", "rights", "plan"]) fun _ _ _ _ _ _ us hl => match us, hl with | [_, _, _], _ => rfl⟩
  have M_Season_month : MtF P w K mg base (He.ga K "Season") 1 "month" ["self"] (spMonth (He.ga K "Season")) := by
    obtain ⟨fd, F, M⟩ := getM c (C := "Season") (m := "month") (qual := "Season.month") (st := s_Season_month) 38 111 rfl rfl
    exact ⟨_, fd, ok_Season_month F T , M, F.binds (ps := ["self"]) fun _ _ _ _ _ _ us hl => match us, hl with | [_], _ => rfl⟩
  have M_Season_close : MtF P w K mg base (He.ga K "Season") 10 "close" ["self", "inflows"] (spClose (He.ga K "Season")) := by
    obtain ⟨fd, F, M⟩ := getM c (C := "Season") (m := "close") (qual := "Season.close") (st := s_Season_close) 39 112 rfl rfl
    exact ⟨_, fd, ok_Season_close F T G_are_inflows G_firsts G_numbers_text G_operation G_rest_of G_rest_rights G_spills M_Season_month, M, F.binds (ps := ["self", "inflows"]) fun _ _ _ _ _ _ us hl => match us, hl with | [_, _], _ => rfl⟩
  have M_Season_records : MtF P w K mg base (He.ga K "Season") 1 "records" ["self"] (spRecords (He.ga K "Season")) := by
    obtain ⟨fd, F, M⟩ := getM c (C := "Season") (m := "records") (qual := "Season.records") (st := s_Season_records) 40 113 rfl rfl
    exact ⟨_, fd, ok_Season_records F T , M, F.binds (ps := ["self"]) fun _ _ _ _ _ _ us hl => match us, hl with | [_], _ => rfl⟩
  have G__law_closed : FnF P w K mg base 11 "_law_closed" ["_law_basin_here", "_law_rights_here", "_law_rows"] (spC 3 d__law_closed) := by
    obtain ⟨f, fd, F, hm, kp⟩ := getG c X G (x := "_law_closed") (st := s__law_closed) 41 114 115 rfl rfl rfl
    exact ⟨f, fd, ok__law_closed F T I_Season M_Season_close M_Season_records, hm, kp, F.binds (ps := ["_law_basin_here", "_law_rights_here", "_law_rows"]) fun _ _ _ _ _ _ us hl => match us, hl with | [_, _, _], _ => rfl⟩
  have G__law_cell : FnF P w K mg base 1 "_law_cell" ["_law_script", "_law_k"] (spCell K) := by
    obtain ⟨f, fd, F, hm, kp⟩ := getG c X G (x := "_law_cell") (st := s__law_cell) 42 116 117 rfl rfl rfl
    exact ⟨f, fd, ok__law_cell F T , hm, kp, F.binds (ps := ["_law_script", "_law_k"]) fun _ _ _ _ _ _ us hl => match us, hl with | [_, _], _ => rfl⟩
  have G__law_digits : FnF P w K mg base 2 "_law_digits" ["_law_script", "_law_first", "_law_last"] (spDig K) := by
    obtain ⟨f, fd, F, hm, kp⟩ := getG c X G (x := "_law_digits") (st := s__law_digits) 43 118 119 rfl rfl rfl
    exact ⟨f, fd, ok__law_digits F T G__law_cell, hm, kp, F.binds (ps := ["_law_script", "_law_first", "_law_last"]) fun _ _ _ _ _ _ us hl => match us, hl with | [_, _, _], _ => rfl⟩
  have G__law_place : FnF P w K mg base 1 "_law_place" ["_law_basin_here", "_law_name"] (spD 2 d__law_place) := by
    obtain ⟨f, fd, F, hm, kp⟩ := getG c X G (x := "_law_place") (st := s__law_place) 44 120 121 rfl rfl rfl
    exact ⟨f, fd, ok__law_place F T , hm, kp, F.binds (ps := ["_law_basin_here", "_law_name"]) fun _ _ _ _ _ _ us hl => match us, hl with | [_, _], _ => rfl⟩
  have G__law_claims : FnF P w K mg base 2 "_law_claims" ["_law_basin_here", "_law_rights_here"] (spD 2 d__law_claims) := by
    obtain ⟨f, fd, F, hm, kp⟩ := getG c X G (x := "_law_claims") (st := s__law_claims) 45 122 123 rfl rfl rfl
    exact ⟨f, fd, ok__law_claims F T G__law_place, hm, kp, F.binds (ps := ["_law_basin_here", "_law_rights_here"]) fun _ _ _ _ _ _ us hl => match us, hl with | [_, _], _ => rfl⟩
  have G__law_cells : FnF P w K mg base 1 "_law_cells" ["_law_basin_here"] (spD 1 d__law_cells) := by
    obtain ⟨f, fd, F, hm, kp⟩ := getG c X G (x := "_law_cells") (st := s__law_cells) 46 124 125 rfl rfl rfl
    exact ⟨f, fd, ok__law_cells F T , hm, kp, F.binds (ps := ["_law_basin_here"]) fun _ _ _ _ _ _ us hl => match us, hl with | [_], _ => rfl⟩
  have G__law_enters : FnF P w K mg base 1 "_law_enters" ["_law_basin_here", "_law_region"] (spD 2 d__law_enters) := by
    obtain ⟨f, fd, F, hm, kp⟩ := getG c X G (x := "_law_enters") (st := s__law_enters) 47 126 127 rfl rfl rfl
    exact ⟨f, fd, ok__law_enters F T , hm, kp, F.binds (ps := ["_law_basin_here", "_law_region"]) fun _ _ _ _ _ _ us hl => match us, hl with | [_, _], _ => rfl⟩
  have G__law_regions : FnF P w K mg base 2 "_law_regions" ["_law_basin_here"] (spD 1 d__law_regions) := by
    obtain ⟨f, fd, F, hm, kp⟩ := getG c X G (x := "_law_regions") (st := s__law_regions) 48 128 129 rfl rfl rfl
    exact ⟨f, fd, ok__law_regions F T G__law_cells G__law_enters, hm, kp, F.binds (ps := ["_law_basin_here"]) fun _ _ _ _ _ _ us hl => match us, hl with | [_], _ => rfl⟩
  have G__law_greatest : FnF P w K mg base 3 "_law_greatest" ["_law_basin_here", "_law_rights_here"] (spD 2 d__law_greatest) := by
    obtain ⟨f, fd, F, hm, kp⟩ := getG c X G (x := "_law_greatest") (st := s__law_greatest) 49 130 131 rfl rfl rfl
    exact ⟨f, fd, ok__law_greatest F T G__law_claims G__law_regions, hm, kp, F.binds (ps := ["_law_basin_here", "_law_rights_here"]) fun _ _ _ _ _ _ us hl => match us, hl with | [_, _], _ => rfl⟩
  have G__law_receives : FnF P w K mg base 1 "_law_receives" ["_law_basin_here", "_law_plan", "_law_k", "_law_m"] (spD 4 d__law_receives) := by
    obtain ⟨f, fd, F, hm, kp⟩ := getG c X G (x := "_law_receives") (st := s__law_receives) 50 132 133 rfl rfl rfl
    exact ⟨f, fd, ok__law_receives F T , hm, kp, F.binds (ps := ["_law_basin_here", "_law_plan", "_law_k", "_law_m"]) fun _ _ _ _ _ _ us hl => match us, hl with | [_, _, _, _], _ => rfl⟩
  have G__law_plan_fault : FnF P w K mg base 2 "_law_plan_fault" ["_law_basin_here", "_law_rights_here", "_law_plan"] (spD 3 d__law_plan_fault) := by
    obtain ⟨f, fd, F, hm, kp⟩ := getG c X G (x := "_law_plan_fault") (st := s__law_plan_fault) 51 134 135 rfl rfl rfl
    exact ⟨f, fd, ok__law_plan_fault F T G__law_receives, hm, kp, F.binds (ps := ["_law_basin_here", "_law_rights_here", "_law_plan"]) fun _ _ _ _ _ _ us hl => match us, hl with | [_, _, _], _ => rfl⟩
  have G__law_demands : FnF P w K mg base 2 "_law_demands" ["_law_box", "_law_months"] (spB 1 d__law_demands) := by
    obtain ⟨f, fd, F, hm, kp⟩ := getG c X G (x := "_law_demands") (st := s__law_demands) 52 136 137 rfl rfl rfl
    exact ⟨f, fd, ok__law_demands F T G__law_draw, hm, kp, F.binds (ps := ["_law_box", "_law_months"]) fun _ _ _ _ _ _ us hl => match us, hl with | [_, _], _ => rfl⟩
  have G__law_rights : FnF P w K mg base 3 "_law_rights" ["_law_box", "_law_basin_here", "_law_most"] (spB 2 d__law_rights) := by
    obtain ⟨f, fd, F, hm, kp⟩ := getG c X G (x := "_law_rights") (st := s__law_rights) 53 138 139 rfl rfl rfl
    exact ⟨f, fd, ok__law_rights F T G__law_demands G__law_draw, hm, kp, F.binds (ps := ["_law_box", "_law_basin_here", "_law_most"]) fun _ _ _ _ _ _ us hl => match us, hl with | [_, _, _], _ => rfl⟩
  exact ok_law F T G__law_basin G__law_closed G__law_digits G__law_draw G__law_greatest G__law_plan_fault G__law_rights
theorem facts (c : He.SaysE hfa hfn K) (X : K.In h) (G : h.Ns mainGlobals mg) {f : Addr} (hfa' : mg ("law" : Str) = some (.ref f)) :
    ∃ fd : FuncData, (∀ (s : Shared) (v : Value), BindsTo s fd ⟨[v], []⟩ [("_law_script", v)]) ∧ ∀ base : Heap, FnOk P w K mg base CX0 12 f fd ["_law_script"] (spLaw K) := by
  obtain ⟨oc, od, osl, kV, doc, pm, an, cdv, ct, lk, hc⟩ := c.def_ 54 (d := dG "law" s_law) rfl
  have kp : PySem.W.keepIn K (.ref (He.ga K "law")) = true := c.fact 141 (f := .keep "law") rfl
  have e := hfa'.symm.trans (He.glo_ok X G (c.fact 140 (f := .glo "law") rfl))
  cases e
  exact ⟨PySem.W.fnOf "law" "law" (defArgs s_law) (defBody s_law) (defScope s_law) .none kV doc pm an cdv ct, fun s v => .of_eq rfl, fun base => core c X G (fun_mk (st := s_law) lk hc kp)⟩
end
end HW
end
section
open PySem PySem.W PySem.Calls PyProof.Rows
set_option maxRecDepth 100000 in
set_option maxHeartbeats 0 in
theorem PySem.Challenge.cw_heldwater_k44_months_add_up_holds : PySem.Challenge.rw_heldwater_k44_months_add_up.Holds := by
  w_on; o_law
  refine HandSHeadRun.head_any (r := OpenLaw.row PySem.Challenge.rw_heldwater_k44_months_add_up) (q := view (OpenLaw.row PySem.Challenge.rw_heldwater_k44_months_add_up).prog [68]) (H := HW.hk) (ob := HW.ob) (M := 6000) (loose := HW.loose) (d := HandSHeadRun.topDef (OpenLaw.row PySem.Challenge.rw_heldwater_k44_months_add_up).prog 68) (kwd := []) HW.ob_eq
    (by kernel_rfl) (fun s => by kernel_rfl) HW.run (by kernel_rfl) (by kernel_rfl) (by kernel_rfl) (by rfl) (by first | assumption | decide +kernel) (by decide +kernel) ⟨rfl, rfl, rfl, rfl, rfl, by decide +kernel⟩ ?hw ?hc
  case hw => w_witness2
  case hc =>
    refine L2.walk_ofE (l := PySem.Challenge.rw_heldwater_k44_months_add_up) (n := 63) (k := 12) (x := "_law_script") (CX := L2.CX0) rfl (by decide) (by kernel_rfl) ⟨rfl, by decide, by decide⟩ ?F (fun _ _ _ _ z => z)
    intro w mg fa h Y G hmg0
    obtain ⟨K, KX, c⟩ := Y
    have hmg : mg ("law" : PySem.Str) = some (.ref fa) := by
      have e : (HandSHeadRun.topDef (OpenLaw.row PySem.Challenge.rw_heldwater_k44_months_add_up).prog 68).name = ("law" : PySem.Str) := by kernel_rfl
      rw [← e]
      exact hmg0
    obtain ⟨fd, hb, hF⟩ := HW.facts (P := (PySem.Challenge.rw_heldwater_k44_months_add_up).prog) (w := w) c KX G hmg
    exact ⟨K, fd, HW.spLaw K, KX, hb, fun H a ns hl _ hS => ⟨a, ns, rfl, hS, fun _ => rfl⟩, fun base _ _ => hF base⟩
end
