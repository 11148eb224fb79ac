import PyProof.Rows.All
import Wide.All
import OpenK.AllK
import KE.KTryDeep
import KE.KNest
import KE.KPairTest
import Wide.FinOn
import PySem.Challenge.RW_nt0483_01
open PySem PySem.W PySem.Spec PySem.Calls PyProof.Rows PyProof.V
set_option Elab.async false
set_option rowWalk.seconds 0
set_option linter.all false
set_option maxRecDepth 100000
namespace Mine
/-- the statements of the text that the walk looks at: all but the names' own -/
def viewQ : Program := { (PySem.Challenge.rw_nt0483_01.row.toRowW).prog with main := { (PySem.Challenge.rw_nt0483_01.row.toRowW).prog.main with body := [1, 2, 4, 6, 7, 9, 10, 11, 12, 13, 14, 15, 16, 17].filterMap fun i => (PySem.Challenge.rw_nt0483_01.row.toRowW).prog.main.body[i]? } }
/-- the looks at the law, by the library's quick twin -/
theorem well_said : OpenLaw.wellSaid PySem.Challenge.rw_nt0483_01 = true := by
  w_top off
  rw [PySem.W.Fast.te9446332074065402090]
  kernel_rfl
/-- the top from the boot on: the opening is the library's own -/
theorem left_boot {p q : Program} {loose : List Str} {Xt : Shared → Bool} {α : Type} {Yf : Shared → α} {Ya : World → α} {N : Nat} {g0 : Bool} (e : opening p = plainProg p.main.scope.names) (hN : Nat.ble 600 N = true) (f : ∀ s, fenceModules? p s = some s)
    (h : ∀ (w : World) (os : OsState), (topFrom treeTable p w N ⟨boot_heap w.params, Array.mk [], boot_drawn, boot_toks, os⟩).map (fun s => (openSeen q loose (importedModules p.main.body) Xt g0 s, Yf s)) = some (openGood q loose, Ya w)) : LeftO p q loose Xt Yf Ya N g0 := fun w => by
  obtain ⟨⟨h0, gs, d, k, os⟩, e1, e2⟩ := Option.map_eq_some_iff.mp (boot_open e hN f w)
  simp only [Prod.mk.injEq] at e2
  obtain ⟨rfl, rfl, rfl, rfl⟩ := e2
  unfold openEnds
  rw [e1]
  exact h w os
section
local macro_rules | `(tactic| o_law) => `(tactic| refine holds_law well_said fun said => ?_)
local macro_rules | `(tactic| o_head $H) => `(tactic| (refine holds_open (q := viewQ) (loose := [Str.ofString "PostError", Str.ofString "Stack", Str.ofString "Thing"]) (Xt := fun s => xlAt viewQ [] s && recOk (RowW.records PySem.Challenge.rw_nt0483_01.row.toRowW) s) (XP := XL viewQ []) (Yf := Hook.obs $H) (Ya := Hook.val $H) (YP := Hook.says $H) (N := 3418) ?hl (Hook.of $H) (Hook.keeps $H) (fun s e => xl_of s (Bool.and_eq_true_iff.mp e).1) XL.keeps (by rfl) (by rfl) (by rfl) (fun s e => recFacts_of (Bool.and_eq_true_iff.mp e).2) (by rfl) (by first | assumption | decide +kernel) (by decide +kernel) ⟨rfl, rfl, rfl, rfl, rfl, by decide +kernel⟩ ?hw ?hc; (case hl => exact left_boot (by rfl) (by decide +kernel) (fun s => by rfl) (by intro w os; unfold topFrom; rw [PySem.W.Fast.te14082659384304107361, PySem.W.Fast.te14364793385576792824, PySem.W.Fast.te4187177175401517315]; kernel_rfl))))
set_option maxRecDepth 100000 in
set_option maxHeartbeats 8000000 in
open_top hd for PySem.Challenge.rw_nt0483_01
end
local macro_rules | `(tactic| walk_at $s:str) => `(tactic| k_extra $s)
/-- what every call of this text has around it, and what is promised of it: it comes back, with Ret of the answer and of the ledger -/
abbrev Amb (lv : Nat) (w : World) (p : Program) (loose : List Str) (mean : ExcName → Option Value) (mg mb : Str → Option Value) (f : Addr) (args : List Value) (news : List (Addr × Obj)) (Ret : Value → List (Addr × Obj) → Prop) : Prop :=
  ∀ (dp un : Nat) (gd : Option (List Code)) (cn : Str) (cs : Scope) (a : Addr) (ccd : Value) (cl : List (Str × Addr)) (outer : List Env) (A₀ : Around) (base h₀ : Heap) (L : Addr) (m : Str → Option Value) (s : Shared) (Q E : Value → Shared → Prop),
    Below A₀ base outer h₀ → Fr h₀ L s.heap m → (Mine.hd.heap_1 w.params).In h₀ → News h₀ L s.heap news → Top p loose mean mg mb h₀ → cs.kind = .function → dp + 20 * lv < recursionLimit → un + 200 * lv < cLine →
    (∀ r news' h' tk', Fr h₀ L h' m → News h₀ L h' news' → Ret r news' → Q r { s with heap := h', toks := tk' }) →
    wpAny (model PySem.Challenge.rw_nt0483_01.row.prog w) (ktrTop dp un gd cn cs L a ccd cl outer) (call (.ref f) args) Q E s
theorem Amb.use {lv : Nat} {w : World} {p : Program} {loose : List Str} {mean : ExcName → Option Value} {mg mb : Str → Option Value} {f : Addr} {args : List Value} {news : List (Addr × Obj)} {Ret : Value → List (Addr × Obj) → Prop} (C : Amb lv w p loose mean mg mb f args news Ret)
    {dp un : Nat} {gd : Option (List Code)} {cn : Str} {cs : Scope} {a : Addr} {ccd : Value} {cl : List (Str × Addr)} {outer : List Env} {A₀ : Around} {base h₀ : Heap} {L : Addr} {m : Str → Option Value} {s : Shared} {Q E : Value → Shared → Prop}
    (B : Below A₀ base outer h₀) (F : Fr h₀ L s.heap m) (X : (Mine.hd.heap_1 w.params).In h₀) (N : News h₀ L s.heap news) (T : Top p loose mean mg mb h₀) (hk : cs.kind = .function) (hd : dp + 20 * lv < recursionLimit) (hu : un + 200 * lv < cLine)
    (k : ∀ r news' h' tk', Fr h₀ L h' m → News h₀ L h' news' → Ret r news' → Q r { s with heap := h', toks := tk' }) :
    wpAny (model PySem.Challenge.rw_nt0483_01.row.prog w) (ktrTop dp un gd cn cs L a ccd cl outer) (call (.ref f) args) Q E s := C _ _ _ _ _ _ _ _ _ _ _ _ _ _ _ _ _ B F X N T hk hd hu k
/-- r is l without one standing of q -/
inductive Ext (q : Addr × Obj) : List (Addr × Obj) → List (Addr × Obj) → Prop
  | head {r} : Ext q (q :: r) r
  | tail {p l r} : Ext q l r → Ext q (p :: l) (p :: r)
theorem Ext.sub {q : Addr × Obj} {l r : List (Addr × Obj)} (e : Ext q l r) : q ∈ l ∧ ∀ p ∈ r, p ∈ l := by
  w_top off
  induction e with
  | head => exact ⟨.head _, fun p hp => .tail _ hp⟩
  | tail _ ih => exact ⟨.tail _ ih.1, fun p hp => by
      rcases List.mem_cons.mp hp with rfl | hp
      · exact .head _
      · exact .tail _ (ih.2 p hp)⟩
theorem Ext.news {h₀ h : Heap} {L : Addr} {q : Addr × Obj} {l r l' : List (Addr × Obj)} (e : Ext q l r) (N : News h₀ L h (l' ++ l)) : News h₀ L h (l' ++ q :: r) := fun p hp => by
  rcases List.mem_append.mp hp with hp | hp
  · exact N p (List.mem_append_left _ hp)
  · rcases List.mem_cons.mp hp with rfl | hp
    · exact N _ (List.mem_append_right _ e.sub.1)
    · exact N p (List.mem_append_right _ (e.sub.2 p hp))
theorem allLt_ne {d : Addr} {l : List (Addr × Obj)} (h : AllLt d l) : ∀ p ∈ l, p.1 ≠ d := fun p hp => Nat.ne_of_lt (ktn_ltOf h p hp)
theorem lt_ne {d : Addr} {l : List (Addr × Obj)} (h : ∀ p ∈ l, p.1 < d) : ∀ p ∈ l, p.1 ≠ d := fun p hp => Nat.ne_of_lt (h p hp)
/-- d is none of the list's addresses -/
noncomputable def AllNe (d : Addr) : List (Addr × Obj) → Prop
  | [] => True
  | p :: r => @Ne Nat p.1 d ∧ AllNe d r
theorem allNe_of {d : Addr} : ∀ {l : List (Addr × Obj)}, (∀ p ∈ l, p.1 ≠ d) → AllNe d l
  | [], _ => trivial
  | p :: _, h => ⟨h p (.head _), allNe_of fun q hq => h q (.tail _ hq)⟩
theorem allNe_ne {d : Addr} : ∀ {l : List (Addr × Obj)}, AllNe d l → ∀ p ∈ l, p.1 ≠ d
  | [], _, _, hp => nomatch hp
  | q :: r, h, p, hp => by
    rcases List.mem_cons.mp hp with rfl | hp
    · exact h.1
    · exact allNe_ne h.2 p hp
theorem forall_sub {d : Addr} {l l' : List (Addr × Obj)} (h : ∀ p ∈ l, p.1 ≠ d) (hs : ∀ p ∈ l', p ∈ l) : ∀ p ∈ l', p.1 ≠ d := fun p hp => h p (hs p hp)
theorem news_sub {h₀ h : Heap} {L : Addr} {l l' : List (Addr × Obj)} (N : News h₀ L h l) (hs : ∀ p ∈ l', p ∈ l) : News h₀ L h l' := fun p hp => N p (hs p hp)
theorem pos_of_ne {vs : List Value} {ns : List Int} (hi : IntsAre vs ns) (h : decide (ns = []) = false) : 0 < vs.length := by
  rw [hi.length]
  cases ns with
  | nil => simp at h
  | cons => simp
theorem ints_snoc {vs : List Value} {ns : List Int} (hi : IntsAre vs ns) (k : Int) (t : Tok) : IntsAre (vs ++ [.int k t]) (ns ++ [k]) := by
  induction hi with
  | nil => exact .cons _ _ .nil
  | cons n u _ ih => exact .cons n u ih
theorem size_of_ints {vs : List Value} {ns : List Int} (hi : IntsAre vs ns) {k : Nat} (h : ns.length ≤ k) (hk : k ≤ 1000) : vs.length ≤ sizeLine := by
  rw [hi.length, sizeLine_eq]; omega
theorem sub_nil {l : List (Addr × Obj)} : ∀ p ∈ ([] : List (Addr × Obj)), p ∈ l := fun _ h => nomatch h
theorem sub_self {l : List (Addr × Obj)} : ∀ p ∈ l, p ∈ l := fun _ h => h
theorem sub_cons {q : Addr × Obj} {r l : List (Addr × Obj)} (h1 : q ∈ l) (h2 : ∀ p ∈ r, p ∈ l) : ∀ p ∈ q :: r, p ∈ l := fun p hp => by
  rcases List.mem_cons.mp hp with rfl | hp
  · exact h1
  · exact h2 p hp
theorem sub_tail {q : Addr × Obj} {r l : List (Addr × Obj)} (h : ∀ p ∈ r, p ∈ l) : ∀ p ∈ r, p ∈ q :: l := fun p hp => .tail _ (h p hp)
theorem fmod_range {a b : Int} (h : 1 ≤ b) : 0 ≤ a.fmod b ∧ a.fmod b < b := ⟨Int.fmod_nonneg_of_pos a (by omega), Int.fmod_lt_of_pos a (by omega)⟩
section
variable {prog : Program} {w : World} {A : Around} {E : Value → Shared → Prop} {s : Shared} {h₀ : Heap} {L l b D : Addr} {m : Str → Option Value} {news news' : List (Addr × Obj)} {g : Obj → List (Addr × Obj)} {n n2 : Nat} {vs ws : List Value} {v : Value} {value slice : PySem.Expr} {k : Int} {u : Tok}
theorem m_list (N : News h₀ L s.heap news) (hm : (l, W.listOf vs.toArray n) ∈ news) : s.heap.IsList l vs.toArray := News.isList N hm
theorem m_len {Q : Value → Shared → Prop} (N : News h₀ L s.heap news) (hm : (l, W.listOf vs.toArray n) ∈ news) (hz : vs.length ≤ 1000) (h : ∀ t tk, Q (.int (vs.length : Int) t) { s with toks := tk }) :
    wpAny (model prog w) A (call (.builtin "len") [.ref l]) Q E s :=
  len_list (m_list N hm) (by rw [List.size_toArray]; omega) (by rw [List.size_toArray]; exact h _ _)
theorem m_pick_from {x : Int} (h0 : 0 ≤ x) : slicePick vs.toArray (some x) none none = (vs.drop x.toNat).toArray := by
  have e : sliceBounds (some x) none none vs.toArray.size = (((min x.toNat vs.toArray.size : Nat) : Int), ((vs.toArray.size : Nat) : Int), 1) := by
    simp only [sliceBounds, Option.getD_none, show (1 : Int) > 0 by decide, if_true, if_neg (show ¬ (x < 0) by omega)]
    congr 1
    omega
  rw [kmk_pick_nat _ e, List.size_toArray]
  congr 1
  show (vs.drop (min x.toNat vs.length)).take (vs.length - min x.toNat vs.length) = _
  rw [kmk_drop_min, List.take_of_length_le (by rw [List.length_drop]; omega)]
theorem m_pick_upto {x : Int} (h0 : 0 ≤ x) : slicePick vs.toArray none (some x) none = (vs.take x.toNat).toArray := by
  have e : sliceBounds none (some x) none vs.toArray.size = (((0 : Nat) : Int), ((min x.toNat vs.toArray.size : Nat) : Int), 1) := by
    simp only [sliceBounds, Option.getD_none, show (1 : Int) > 0 by decide, if_true, if_neg (show ¬ (x < 0) by omega)]
    congr 1
    congr 1
    omega
  rw [kmk_pick_nat _ e, List.size_toArray]
  congr 1
  show (vs.drop 0).take (min x.toNat vs.length - 0) = _
  rw [List.drop_zero, Nat.sub_zero, kmk_take_min]
theorem m_from {x : Int} {Q : Value → Shared → Prop} (F : Fr h₀ L s.heap m) (N : News h₀ L s.heap news) (hm : (l, W.listOf vs.toArray n) ∈ news) (h0 : 0 ≤ x) (hz : vs.length ≤ 1000)
    (h : ∀ D h', Fr h₀ L h' m → News h₀ L h' ((D, W.listOf (vs.drop x.toNat).toArray 0) :: news) → (∀ p ∈ news, p.1 < D) → Q (.ref D) { s with heap := h' })
    (hs : subscripted slice false (.ref l) (.ref s.heap.objs.size) = operate [.ref s.heap.objs.size, .ref l] (getItem (.ref l) (.ref s.heap.objs.size))) (ht : ∀ r, letTemporaryGo value (.ref l) r = pure ()) :
    wpAny (model prog w) A (subscriptTail value slice (.ref l) (.ref s.heap.objs.size)) Q E { s with heap := s.heap.push { cls := .type "slice", data := .fields #[.int x u, .none, .none] } } :=
  kmk_slice F N (m_list N hm) (.int _ _) .none (by rw [m_pick_from h0]; exact h) hs ht (by rw [List.size_toArray, sizeLine_eq]; omega)
theorem m_upto {x : Int} {Q : Value → Shared → Prop} (F : Fr h₀ L s.heap m) (N : News h₀ L s.heap news) (hm : (l, W.listOf vs.toArray n) ∈ news) (h0 : 0 ≤ x) (hz : vs.length ≤ 1000)
    (h : ∀ D h', Fr h₀ L h' m → News h₀ L h' ((D, W.listOf (vs.take x.toNat).toArray 0) :: news) → (∀ p ∈ news, p.1 < D) → Q (.ref D) { s with heap := h' })
    (hs : subscripted slice false (.ref l) (.ref s.heap.objs.size) = operate [.ref s.heap.objs.size, .ref l] (getItem (.ref l) (.ref s.heap.objs.size))) (ht : ∀ r, letTemporaryGo value (.ref l) r = pure ()) :
    wpAny (model prog w) A (subscriptTail value slice (.ref l) (.ref s.heap.objs.size)) Q E { s with heap := s.heap.push { cls := .type "slice", data := .fields #[.none, .int x u, .none] } } :=
  kmk_slice F N (m_list N hm) .none (.int _ _) (by rw [m_pick_upto h0]; exact h) hs ht (by rw [List.size_toArray, sizeLine_eq]; omega)
theorem m_item {Q : Value → Shared → Prop} (N : News h₀ L s.heap news) (hm : (l, W.listOf vs.toArray n) ∈ news) (h0 : 0 ≤ k) (hx : vs[k.toNat]? = some v) (hz : vs.length ≤ 1000) (h : Q v s)
    (hs : subscripted slice false (.ref l) (.int k u) = operate [.ref l, .int k u] (getItem (.ref l) (.int k u))) (hg : ∀ r, letTemporaryGo value (.ref l) r = pure ()) :
    wpAny (model prog w) A (subscriptTail value slice (.ref l) (.int k u)) Q E s :=
  item_listL (m_list N hm) h0 (by have := (List.getElem?_eq_some_iff.mp hx).1; omega) hx h hs hg
theorem m_eq_nil {Q : Value → Shared → Prop} (N : News h₀ L s.heap news) (hm : (l, W.listOf vs.toArray n) ∈ news) (hb : (b, W.listOf #[] n2) ∈ news) (hu : A.units < cLine) (h : Q (.bool (decide (vs = []))) s) :
    wpAny (model prog w) A (compareOp .Eq (.ref l) (.ref b)) Q E s := by
  have hb' : s.heap.IsList b #[] := News.isList N hb
  cases vs with
  | nil =>
    refine PySem.SeqAt.eq_listAt (e := fun _ => true) (m_list N hm) hb' rfl hu (fun j h1 _ => absurd h1 (Nat.not_lt_zero _)) ?_
    simpa using h
  | cons x r =>
    refine PySem.SeqAt.eq_list_lengthsAt (m_list N hm) hb' (by simp) hu ?_
    simpa using h
theorem m_pop {Q : Value → Shared → Prop} (F : Fr h₀ L s.heap m) (N : News h₀ L s.heap news) (U : UpdF D (W.listOf (vs ++ [v]).toArray n) news g) (hz : vs.length ≤ 1000)
    (h : ∀ h', Fr h₀ L h' m → News h₀ L h' (g (W.listOf vs.toArray (n + 1))) → Q v { s with heap := h' }) : wpAny (model prog w) A (call (.builtin "list.pop") [.ref D]) Q E s := by
  obtain ⟨pre, post, rfl, hg, a, b⟩ := U.split
  have U' : ∀ pre : List (Addr × Obj), (∀ p ∈ pre, p.1 ≠ D) → Upd D (W.listOf (vs ++ [v]).toArray n) (W.listOf vs.toArray (n + 1)) (pre ++ (D, W.listOf (vs ++ [v]).toArray n) :: post) (pre ++ (D, W.listOf vs.toArray (n + 1)) :: post) := by
    intro pre
    induction pre with
    | nil => intro _; exact .head b
    | cons q r ih => intro hq; exact .tail (hq q (.head _)) (ih fun p hp => hq p (.tail _ hp))
  refine kl_pop F N (p := vs) (y := v) (by simpa using kpa_last v vs) (U' pre a) (by simp; rw [sizeLine_eq]; omega) fun h' F' N' => h h' F' ?_
  rw [hg]; exact N'
theorem m_append {Q : Value → Shared → Prop} (F : Fr h₀ L s.heap m) (N : News h₀ L s.heap news) (U : UpdF D (W.listOf vs.toArray n) news g) (hz : vs.length ≤ 1000)
    (h : ∀ h', Fr h₀ L h' m → News h₀ L h' (g (W.listOf (vs ++ [v]).toArray (n + 1))) → Q .none { s with heap := h' }) : wpAny (model prog w) A (call (.builtin "list.append") [.ref D, v]) Q E s := by
  obtain ⟨pre, post, rfl, hg, a, b⟩ := U.split
  have U' : ∀ pre : List (Addr × Obj), (∀ p ∈ pre, p.1 ≠ D) → Upd D (W.listOf vs.toArray n) (W.listOf (vs.toArray.push v) (n + 1)) (pre ++ (D, W.listOf vs.toArray n) :: post) (pre ++ (D, W.listOf (vs.toArray.push v) (n + 1)) :: post) := by
    intro pre
    induction pre with
    | nil => intro _; exact .head b
    | cons q r ih => intro hq; exact .tail (hq q (.head _)) (ih fun p hp => hq p (.tail _ hp))
  refine append_K F N (U' pre a) (fun h' F' N' => h h' F' ?_) (by rw [List.size_toArray, sizeLine_eq]; omega)
  rw [hg, ← List.push_toArray]; exact N'
theorem m_extend {Q : Value → Shared → Prop} (F : Fr h₀ L s.heap m) (N : News h₀ L s.heap news) (hb : (b, W.listOf ws.toArray n2) ∈ news) (U : UpdF D (W.listOf vs.toArray n) news g) (hz : vs.length ≤ 1000) (hz2 : ws.length ≤ 1000)
    (h : ∀ h' n', Fr h₀ L h' m → News h₀ L h' (g (W.listOf (vs ++ ws).toArray n')) → Q .none { s with heap := h' }) : wpAny (model prog w) A (call (.builtin "list.extend") [.ref D, .ref b]) Q E s := by
  obtain ⟨pre, post, rfl, hg, a, c⟩ := U.split
  have U' : ∀ (o' : Obj) (pre : List (Addr × Obj)), (∀ p ∈ pre, p.1 ≠ D) → Upd D (W.listOf vs.toArray n) o' (pre ++ (D, W.listOf vs.toArray n) :: post) (pre ++ (D, o') :: post) := by
    intro o' pre
    induction pre with
    | nil => intro _; exact .head c
    | cons q r ih => intro hq; exact .tail (hq q (.head _)) (ih fun p hp => hq p (.tail _ hp))
  have door : ¬(!vs.toArray.isEmpty && Builtin.List.listTooLong (vs.toArray.size + ws.toArray.size)) = true := extend_door (by simp only [List.size_toArray]; rw [sizeLine_eq]; omega)
  by_cases e : ws = []
  · subst e
    refine kxn_extend F N hb rfl (U' _ pre a) door (by simp; rw [sizeLine_eq]; omega) (by simp; rw [sizeLine_eq]; omega) fun h' F' N' => h h' n F' ?_
    rw [hg, List.append_nil]; exact N'
  · refine kl_extend F N hb (l := vs ++ ws) (by simp) (by simpa using e) (U' _ pre a) door (by simp; rw [sizeLine_eq]; omega) (by simp; rw [sizeLine_eq]; omega) fun h' F' N' => h h' (n + 1) F' ?_
    rw [hg]; exact N'
theorem m_add {Q : Value → Shared → Prop} (F : Fr h₀ L s.heap m) (N : News h₀ L s.heap news) (hm : (l, W.listOf vs.toArray n) ∈ news) (hb : (b, W.listOf ws.toArray n2) ∈ news) (hz : vs.length ≤ 1000) (hz2 : ws.length ≤ 1000)
    (h : ∀ D h', Fr h₀ L h' m → News h₀ L h' ((D, W.listOf (vs ++ ws).toArray 0) :: news) → (∀ p ∈ news, p.1 < D) → Q (.ref D) { s with heap := h' }) : wpAny (model prog w) A (binaryOp .Add (.ref l) (.ref b)) Q E s :=
  add_lists F N (m_list N hm) (News.isList N hb) (fun h' F' N' => h _ h' F' N' fun p hp => Heap.lt_size (N p hp).1) (by rw [sizeLine_eq]; omega)
theorem m_tupleOf {Q : Value → Shared → Prop} (F : Fr h₀ L s.heap m) (N : News h₀ L s.heap news) (hm : (l, W.listOf vs.toArray n) ∈ news) (hz : vs.length ≤ 1000)
    (h : ∀ D h', Fr h₀ L h' m → News h₀ L h' ((D, ({ cls := .type "tuple", data := .seq vs.toArray } : Obj)) :: news) → (∀ p ∈ news, p.1 < D) → Q (.ref D) { s with heap := h' }) : wpAny (model prog w) A (call (.type "tuple") [.ref l]) Q E s :=
  kde_tupleOf F N (m_list N hm) (by rw [List.size_toArray]; omega) rfl h
theorem m_listOf {Q : Value → Shared → Prop} (F : Fr h₀ L s.heap m) (N : News h₀ L s.heap news) (hm : (l, ({ cls := .type "tuple", data := .seq vs.toArray } : Obj)) ∈ news) (hz : vs.length ≤ 1000)
    (h : ∀ D c h', Fr h₀ L h' m → News h₀ L h' ((D, W.listOf vs.toArray c) :: news) → (∀ p ∈ news, p.1 < D) → Q (.ref D) { s with heap := h' }) : wpAny (model prog w) A (call (.type "list") [.ref l]) Q E s :=
  list_copyKT F N (News.isTup N hm) h (by rw [List.size_toArray, sizeLine_eq]; omega)
end
/-- a turn's end -/
def TurnEnd (h₀ : Heap) (L : Addr) (I : Addr) (oI : Obj) (J : (Str → Option Value) → List (Addr × Obj) → Prop) (s₁ : Shared) (Q : Flow → Shared → Prop) (f : Flow) (s₂ : Shared) : Prop :=
  match f with
  | .ret v => Q (.ret v) s₂
  | .brk => Q .next s₂
  | _ => ∃ h' tk' m' nx', s₂ = { s₁ with heap := h', toks := tk' } ∧ Fr h₀ L h' m' ∧ News h₀ L h' ((I, oI) :: nx') ∧ (∀ p ∈ nx', p.1 ≠ I) ∧ J m' nx'
theorem m_range {prog : Program} {w : World} {A : Around} {E : Value → Shared → Prop} {s : Shared} {env : Env} {h₀ : Heap} {x : Str} {body : List Stmt} {Q : Flow → Shared → Prop} {r : Addr} {b₀ : Int} {t₀ u₀ v₀ : Tok} {n : Nat} {m₀ : Str → Option Value} {news : List (Addr × Obj)}
    (J : Nat → (Str → Option Value) → List (Addr × Obj) → Prop)
    (hh : A.handled = none) (hr : IsRange s.heap r 0 b₀ 1 t₀ u₀ v₀) (hb : b₀ = (n : Int)) (hn1 : n ≤ 1000) (F : Fr h₀ env.locals s.heap m₀) (N : News h₀ env.locals s.heap news) (hj : J 0 m₀ news)
    (turn : ∀ i t m₁ nx h tk I oI, i < n → J i m₁ nx → (∀ p ∈ nx, p.1 ≠ I) → Fr h₀ env.locals h (fun y => if y = x then some (.int (i : Int) t) else m₁ y) → News h₀ env.locals h ((I, oI) :: nx) →
      wpAny (model prog w) A (execs body env) (TurnEnd h₀ env.locals I oI (J (i + 1)) { s with heap := h, toks := tk } Q) E { s with heap := h, toks := tk })
    (done : ∀ m₁ nx h tk, J n m₁ nx → Fr h₀ env.locals h m₁ → News h₀ env.locals h nx → Q .next { s with heap := h, toks := tk }) :
    wpAny (model prog w) A (pyIter (.ref r)) (fun it s₂ => LoopAtV prog w A h₀ env x body Q E it s₂) E s := by
  subst hb
  have hsmall : Builtin.Range.small 0 (n : Int) 1 = true := small_one (by omega) (by omega) (by omega) (by omega)
  have hn : Builtin.Range.rangeSize 0 (n : Int) 1 = (n : Int) := by
    have := rangeSize_nat 0 n
    simpa using this
  refine wpAny_pyIter_range hr hsmall ?_
  have W : Walks prog w A s.heap.objs.size [s.heap.objs.size] [s.heap.objs.size] n (fun i v => i < n ∧ ∃ t, v = .int (0 + i * 1) t)
      (fun i h => IsRangeIter h s.heap.objs.size (0 + (i : Nat) * 1) ((n : Int) - (i : Nat)) 1) := (Walks.range hh _ 0 1 n).bound
  refine ⟨s.heap.objs.size, _, _, n, _, _, m₀, news, J, rfl, W, ?_, ?_, ?_, (by show IsRangeIter _ _ _ _ _; rw [hn]; simpa using Heap.get?_push_size _ rfl), F.push _, (fun p hp => ⟨Heap.get?_push_of_some _ (N p hp).1, (N p hp).2⟩), hj, ?_, ?_⟩
  · intro hm
    exact absurd F.ns.lt ((List.mem_singleton.mp hm) ▸ Nat.lt_irrefl _)
  · intro b hb
    rw [List.mem_singleton.mp hb]
    exact next_is_new F
  · intro p hp hI
    exact absurd (Heap.lt_size (N p hp).1) ((List.mem_singleton.mp hI) ▸ Nat.lt_irrefl _)
  · rintro i v m₁ nx s₁ own ⟨hh', tk', rfl⟩ hin ⟨_, t, rfl⟩ hJ hoff hown hget hfp hst F₁ N₁
    have hI : ∃ oI, hh'.get? s.heap.objs.size = some oI := ⟨_, hst⟩
    obtain ⟨oI, hoI⟩ := hI
    have hmem : (s.heap.objs.size, oI) ∈ own := hfp _ (.head _) (next_is_new F) _ hoI
    have hall : ∀ p ∈ own, p = (s.heap.objs.size, oI) := fun p hp => by
      have h1 := List.mem_singleton.mp (hown p hp)
      have h2 : hh'.get? p.1 = some p.2 := hget p hp
      rw [h1, hoI] at h2
      exact Prod.ext h1 (Option.some.inj h2).symm
    have N₂ : News h₀ env.locals hh' ((s.heap.objs.size, oI) :: nx) := fun p hp => by
      rcases List.mem_cons.mp hp with rfl | hp
      · exact N₁ _ (List.mem_append_left _ hmem)
      · exact N₁ _ (List.mem_append_right _ hp)
    have hv : (0 + (i : Int) * 1) = (i : Int) := by omega
    rw [hv] at F₁
    refine wpAny_mono (turn i t m₁ nx hh' tk' _ oI hin hJ (fun p hp e => hoff p hp (by rw [e]; exact .head _)) F₁ N₂) (fun f s₂ p => ?_) fun _ _ e => e
    have fin : (∃ h' tk' m' nx', s₂ = { s with heap := h', toks := tk' } ∧ Fr h₀ env.locals h' m' ∧ News h₀ env.locals h' ((s.heap.objs.size, oI) :: nx') ∧ (∀ p ∈ nx', p.1 ≠ s.heap.objs.size) ∧ J (i + 1) m' nx') →
        LoopStepU h₀ env.locals [s.heap.objs.size] own (J (i + 1)) { s with heap := hh', toks := tk' } .next s₂ := by
      rintro ⟨h', tk, m', nx', e, F', N', hn', hJ'⟩
      refine ⟨rfl, h', tk, m', nx', e, F', fun p hp => ?_, fun p hp hq => hn' p hp (List.mem_singleton.mp hq), hJ'⟩
      rcases List.mem_append.mp hp with hp | hp
      · rw [hall p hp]; exact N' _ (.head _)
      · exact N' _ (.tail _ hp)
    cases f with
    | ret v => exact .ret p
    | brk => exact .brk p
    | next => exact .next (fin p)
    | cont => exact .cont (fin p)
  · rintro h' tk m' news' F' N' _ hJ
    exact done m' news' h' tk hJ F' N'
/-- what stands behind a statement, kept under one name: the steps inside the statement then bear the name alone -/
def Sealed {α : Type} (Q Q1 : α → Shared → Prop) : Prop := ∀ f s', Q f s' → Q1 f s'
theorem Sealed.use {α : Type} {Q Q1 : α → Shared → Prop} {f : α} {s' : Shared} (h : Sealed Q Q1) (q : Q f s') : Q1 f s' := h f s' q
theorem seal_cons {M : Model} {A : Around} {E : Value → Shared → Prop} {env : Env} {s : Shared} {st : Stmt} {rest : List Stmt} {Q : Flow → Shared → Prop}
    (h : ∀ Q1 : Flow → Shared → Prop, Sealed (fun f s' => match f with | .next => wpAny M A (execs rest env) Q E s' | f => Q f s') Q1 → ∀ tk, wpAny M A (exec st env) Q1 E { s with toks := tk }) :
    wpAny M A (execs (st :: rest) env) Q E s := wpAny_execs_cons (h _ (fun _ _ q => q) s.toks)
theorem said_M01_1 : True := by
  k_with "execs cons" => (first | ((k_here; (with_reducible refine seal_cons ?_); intro zqQ1' zqhQ1' zqtk'; (try dsimp only))) | fail)
  trivial
local macro_rules | `(tactic| k_steps) => `(tactic| k_extra "my k_steps")
theorem said_M01_2 : True := by
  k_with "my k_steps" => (first | (repeat' (first | (k_unfold; (try dsimp only)) | (k_end; kc_close) | walk1 | (dsimp only; walk1) | (leave1; walk_say "STEP leave1"; (try dsimp only)) | (refine Sealed.use (by with_reducible assumption) ?_; (try dsimp only)) | fail "no step")) | fail)
  k_with "sd ae" => (first | (((case zqB => k_asm); (case zqF => k_asm); (case zqX => k_asm); (case zqN => k_asm); (case zqe1 => tb_start); (case zqe2 => tb_start); (case zqe3 => tb_start))) | fail)
  k_with "sd a" => (first | (((case zqB => k_asm); (case zqF => k_asm); (case zqX => k_asm); (case zqN => k_asm))) | fail)
  k_with "sd e" => (first | (((case zqe1 => tb_start); (case zqe2 => tb_start); (case zqe3 => tb_start))) | fail)
  k_with "sd pt" => (first | (((case zqap => exact ⟨by k_ne, by k_ne, by k_ne, by k_all, by k_all, by k_all⟩); (case zqT => k_asm); (case zqhk => first | exact rfl | assumption); (case zqhd => ktr_room); (case zqhu => ktr_units))) | fail)
  k_with "sd t" => (first | (((case zqT => k_asm); (case zqhk => first | exact rfl | assumption); (case zqhd => ktr_room); (case zqhu => ktr_units))) | fail)
  k_with "sd p" => (first | (((case zqap => exact ⟨by k_ne, by k_ne, by k_ne, by k_all, by k_all, by k_all⟩))) | fail)
  k_with "sd h" => (first | (((case zqhl => lcg_off); (case zqh0 => omega); (case zqh1 => lcg_off))) | fail)
  k_with "sd r" => (first | ((rintro zqe' zqdd' zqhs' zqu' zqv' zqnews' zqh' zqtk' zqg' zqFG' zqR' zqU' ⟨zqt1', zqt2'⟩; subst zqt2'; (try k_sweep))) | fail)
  trivial
local macro_rules | `(tactic| k_mem) => `(tactic| k_extra "my k_mem")
theorem said_M01_3 : True := by
  k_with "my k_mem" => (first | (assumption) | fail)
  trivial
local macro_rules | `(tactic| tb_start) => `(tactic| k_extra "my tb_start")
theorem said_M01_4 : True := by
  k_with "my tb_start" => (first | (first | exact Ext.head | (refine' Ext.tail ?zqe; (case zqe => tb_start)) | fail "tb_start: mine") | fail)
  trivial
local macro_rules | `(tactic| tb_rel) => `(tactic| k_extra "my tb_rel")
theorem said_M01_5 : True := by
  k_with "my tb_rel" => (first | (first | exact sub_nil | (with_reducible exact sub_self) | (refine sub_cons (by k_mem) ?_; tb_rel) | (refine sub_tail ?_; tb_rel) | fail "tb_rel: mine") | fail)
  trivial
local macro_rules | `(tactic| size_fits) => `(tactic| k_extra "my size_fits")
theorem said_M01_6 : True := by
  k_with "my size_fits" => (first | ((rw [sizeLine_eq]; (try simp only [List.size_toArray, List.length_append, List.length_dropLast, List.length_cons, List.length_nil, Array.size_push, List.length_reverse, List.length_map]); omega)) | fail)
  trivial
local macro_rules | `(tactic| k_room) => `(tactic| k_extra "my k_room")
theorem said_M01_7 : True := by
  k_with "my k_room" => (first | (ktr_room) | fail)
  trivial
local macro_rules | `(tactic| k_units) => `(tactic| k_extra "my k_units")
theorem said_M01_8 : True := by
  k_with "my k_units" => (first | (ktr_units) | fail)
  trivial
local macro_rules | `(tactic| k_all) => `(tactic| k_extra "my k_all")
theorem said_M01_9 : True := by
  k_with "my k_all" => (first | (first | assumption | exact forall_sub (by assumption) (by tb_rel) | exact forall_sub (allNe_ne (by assumption)) (by tb_rel) | exact forall_sub (allLt_ne (by assumption)) (by tb_rel) | exact forall_sub (lt_ne (by assumption)) (by tb_rel) | fail "k_all: mine") | fail)
  k_with "subscriptTail" => (first | ((k_here; (with_reducible show wpAny _ _ (subscriptTail _ _ (Value.ref _) (Value.str _ _)) _ _ _); k_dflt (refine kda_item (knd := PySem.strKind _ _) (by k_asm) (by k_mem) (by k_asm) (strKind_is _ _ _ _) (by rfl) ?_))) | fail)
  k_with "setItem ref str" => (first | ((k_here; k_dflt (refine' kda_set (knd := PySem.strKind _ _) ?zqF ?zqN ?zqU ?zqd (strKind_is _ _ _ _) ?zqz ?_; (case zqF => k_asm); (case zqN => k_asm); (case zqU => k_updF); (case zqd => k_asm); (case zqz => rw [sizeLine_eq]; exact Nat.le_of_ble_eq_true (by with_unfolding_all rfl))); intro zqh' zqo' zqF' zqN' zqhd'; (try kob_lit); (try dsimp only at zqN'))) | fail)
  trivial
local macro_rules | `(tactic| lcg_off) => `(tactic| k_extra "my lcg_off")
theorem said_M01_10 : True := by
  k_with "my lcg_off" => (first | (((try simp only [List.length_append, List.length_dropLast, List.length_cons, List.length_nil, List.length_take, List.length_drop, List.length_reverse, List.length_map]); omega)) | fail)
  k_with "call builtin:len" => (first | ((k_here; (with_reducible show wpAny _ _ (call (Value.builtin "len") [Value.ref _]) _ _ _); k_dflt (refine m_len (by k_asm) (by k_mem) (by lcg_off) ?_); intro zqt' zqtk')) | fail)
  k_with "subscriptTail" => (first | ((k_here; (with_reducible show wpAny _ _ (subscriptTail _ (PySem.Expr.Slice _ _ none _) (Value.ref _) (Value.ref _)) _ _ _); k_dflt (first | (refine m_from (by k_asm) (by k_asm) (by k_mem) (by omega) (by lcg_off) ?_ (by with_unfolding_all rfl) (by kmk_pure); intro zqD' zqh' zqF' zqN' zql1) | (refine m_upto (by k_asm) (by k_asm) (by k_mem) (by omega) (by lcg_off) ?_ (by with_unfolding_all rfl) (by kmk_pure); intro zqD' zqh' zqF' zqN' zql1)); (have zql2' := zql1); (try k_lt zql1); (try k_sweep))) | fail)
  k_with "subscriptTail Name Slice ref ref" => (first | ((k_here; (with_reducible show wpAny _ _ (subscriptTail _ (PySem.Expr.Slice _ _ none _) (Value.ref _) (Value.ref _)) _ _ _); k_dflt (first | (refine m_from (by k_asm) (by k_asm) (by k_mem) (by omega) (by lcg_off) ?_ (by with_unfolding_all rfl) (by kmk_pure); intro zqD' zqh' zqF' zqN' zql1) | (refine m_upto (by k_asm) (by k_asm) (by k_mem) (by omega) (by lcg_off) ?_ (by with_unfolding_all rfl) (by kmk_pure); intro zqD' zqh' zqF' zqN' zql1)); (have zql2' := zql1); (try k_lt zql1); (try k_sweep))) | fail)
  k_with "subscriptTail" => (first | ((k_here; (with_reducible show wpAny _ _ (subscriptTail _ _ (Value.ref _) (Value.int _ _)) _ _ _); k_dflt (refine m_item (by k_asm) (by k_mem) (by omega) (by assumption) (by lcg_off) ?_ (by with_unfolding_all rfl) (by kmk_pure)))) | fail)
  k_with "compareOp Eq ref ref" => (first | ((k_here; (with_reducible show wpAny _ _ (compareOp CmpOp.Eq (Value.ref _) (Value.ref _)) _ _ _); k_dflt (refine m_eq_nil (by k_asm) (by k_mem) (by k_mem) (by ktr_units) ?_))) | fail)
  k_with "call builtin:list.pop" => (first | ((k_here; (with_reducible show wpAny _ _ (call (Value.builtin _) [Value.ref _]) _ _ _); k_dflt (refine' m_pop ?zqF ?zqN ?zqU ?zqz ?_; (case zqF => k_asm); (case zqN => k_asm); (case zqU => k_updF); (case zqz => lcg_off)); intro zqh' zqF' zqN'; (try dsimp only at zqN'); (try k_sweep))) | fail)
  k_with "call builtin:list.append" => (first | ((k_here; (with_reducible show wpAny _ _ (call (Value.builtin _) [Value.ref _, _]) _ _ _); k_dflt (refine' m_append ?zqF ?zqN ?zqU ?zqz ?_; (case zqF => k_asm); (case zqN => k_asm); (case zqU => k_updF); (case zqz => lcg_off)); intro zqh' zqF' zqN'; (try dsimp only at zqN'); (try k_sweep))) | fail)
  k_with "call builtin:list.extend" => (first | ((k_here; (with_reducible show wpAny _ _ (call (Value.builtin _) [Value.ref _, Value.ref _]) _ _ _); k_dflt (refine' m_extend ?zqF ?zqN ?zqb ?zqU ?zqz ?zqy ?_; (case zqF => k_asm); (case zqN => k_asm); (case zqb => k_mem); (case zqU => k_updF); (case zqz => lcg_off); (case zqy => lcg_off)); intro zqh' zqn' zqF' zqN'; (try dsimp only at zqN'); (try k_sweep))) | fail)
  k_with "binaryOp Add ref ref" => (first | ((k_here; (with_reducible show wpAny _ _ (binaryOp Operator.Add (Value.ref _) (Value.ref _)) _ _ _); k_dflt (refine m_add (by k_asm) (by k_asm) (by k_mem) (by k_mem) (by lcg_off) (by lcg_off) ?_); intro zqD' zqh' zqF' zqN' zql1; (have zql2' := zql1); (try k_lt zql1); (try k_sweep))) | fail)
  k_with "call type:tuple" => (first | ((k_here; (with_reducible show wpAny _ _ (call (Value.type _) [Value.ref _]) _ _ _); k_dflt (refine m_tupleOf (by k_asm) (by k_asm) (by k_mem) (by lcg_off) ?_); intro zqD' zqh' zqF' zqN' zql1; (have zql2' := zql1); (try k_lt zql1); (try k_sweep))) | fail)
  k_with "call type:list" => (first | ((k_here; (with_reducible show wpAny _ _ (call (Value.type _) [Value.ref _]) _ _ _); k_dflt (refine m_listOf (by k_asm) (by k_asm) (by k_mem) (by lcg_off) ?_); intro zqD' zqc' zqh' zqF' zqN' zql1; (have zql2' := zql1); (try k_lt zql1); (try k_sweep))) | fail)
  trivial
section
abbrev deckKvs (dc : Addr) (mixed : Int) (t1 : Tok) (turn : Int) (t2 : Tok) : List (Str × Value) :=
  [(Str.ofString "cells", .ref dc), (Str.ofString "mixed", .int mixed t1), (Str.ofString "turn", .int turn t2)]
set_option maxRecDepth 100000 in
set_option maxHeartbeats 8000000 in
theorem draw_spec (w : World) (p : Program) (loose : List Str) (mean : ExcName → Option Value) (mg mb : Str → Option Value)
    (dk dc : Addr) (o : Obj) (mixed turn below : Int) (t1 t2 tb : Tok) (cvs : List Value) (ns : List Int) (rest : List (Addr × Obj)) (n : Nat)
    (hod : o.IsDictOf (strKind PySem.Challenge.rw_nt0483_01.row.prog w) (deckKvs dc mixed t1 turn t2))
    (hne : @Ne Nat dk dc) (hr1 : ∀ p ∈ rest, p.1 ≠ dk) (hr2 : ∀ p ∈ rest, p.1 ≠ dc) (hI : IntsAre cvs ns) (hlen : ns.length ≤ 16)
    (ht0 : 0 ≤ turn) (ht1 : turn ≤ 1000) (hb0 : 1 ≤ below) (hb1 : below ≤ 1000) :
    Amb 1 w p loose mean mg mb 187 [.ref dk, .int below tb] ((dk, o) :: (dc, W.listOf cvs.toArray n) :: rest)
      (fun r news' => ∃ k t o' cvs' cs' n' t2', r = .int k t ∧ 0 ≤ k ∧ k < below ∧ news' = (dk, o') :: (dc, W.listOf (List.toArray cvs') n') :: rest ∧
        o'.IsDictOf (strKind PySem.Challenge.rw_nt0483_01.row.prog w) (deckKvs dc mixed t1 (turn + 1) t2') ∧ IntsAre cvs' cs' ∧ cs'.length ≤ 16) := by
  w_top off
  unfold Amb
  k_fill
  intro dp un gd cn cs a ccd cl outer A₀ base h₀ L m s Q E B F X N T hk hd hu hret
  refine wpAny_call ?_
  k_dflt cell_enter
  have hIl := hI.length
  k_steps
  · exact hret _ _ _ _ (by k_asm) (news_sub (by k_asm) (by tb_rel)) ⟨_, _, _, _, _, _, _, rfl, (fmod_range hb0).1, (fmod_range hb0).2, rfl, by k_asm, hI, hlen⟩
  · dsimp only
    k_dflt (refine' kpa_pop ?F ?N ?U ?i ?l ?z ?_; (case F => k_asm); (case N => k_asm); (case U => k_upd); (case i => exact hI); (case l => exact pos_of_ne hI (by assumption)); (case z => exact size_of_ints hI hlen (by decide)))
    intro h' t' F' N' hI'
    have hIl' := hI'.length
    have hlen' := List.length_dropLast (xs := ns)
    k_steps
    · rename News h₀ L _ _ => kN
      simp only [List.push_toArray] at kN
      refine hret _ _ _ _ (by k_asm) (news_sub kN (by tb_rel)) ⟨_, _, _, _, _, _, _, rfl, (fmod_range hb0).1, (fmod_range hb0).2, rfl, by k_asm, ints_snoc hI' _ _, ?_⟩
      · simp only [List.length_append, List.length_cons, List.length_nil]; omega
    · exact hret _ _ _ _ (by k_asm) (news_sub (by k_asm) (by tb_rel)) ⟨_, _, _, _, _, _, _, rfl, (fmod_range hb0).1, (fmod_range hb0).2, rfl, by k_asm, hI', by omega⟩
end
section
/-- the entries of a Thing's dict that stands for the number k -/
inductive ThingEs : Int → List DictEntry → Prop
  | mark (h1 h2 h3 h4 : Int) (t1 t2 t3 t4 t5 t6 : Tok) : ThingEs 0 [⟨h1, .str (Str.ofString "kind") t1, .str (Str.ofString "mark") t2⟩, ⟨h2, .str (Str.ofString "value") t3, .none⟩, ⟨h3, .str (Str.ofString "is_exec") t4, .bool false⟩, ⟨h4, .str (Str.ofString "access") t5, .int 3 t6⟩]
  | int (k : Int) (hk : k ≠ 0) (h1 h2 h3 h4 : Int) (t1 t2 t3 t4 t5 t6 t7 : Tok) : ThingEs k [⟨h1, .str (Str.ofString "kind") t1, .str (Str.ofString "integer") t2⟩, ⟨h2, .str (Str.ofString "value") t3, .int k t7⟩, ⟨h3, .str (Str.ofString "is_exec") t4, .bool false⟩, ⟨h4, .str (Str.ofString "access") t5, .int 3 t6⟩]
/-- v is a Thing of the ledger that stands for k -/
def ThingIn (led : List (Addr × Obj)) (v : Value) (k : Int) : Prop :=
  ∃ x d es nn, v = .ref x ∧ (x, instObj 171 d) ∈ led ∧ (d, dictOf es nn) ∈ led ∧ ThingEs k es
theorem ThingIn.mono {led led' : List (Addr × Obj)} {v : Value} {k : Int} (h : ThingIn led v k) (hs : ∀ p ∈ led, p ∈ led') : ThingIn led' v k :=
  let ⟨x, d, es, nn, e, a, b, c⟩ := h; ⟨x, d, es, nn, e, hs _ a, hs _ b, c⟩
set_option maxRecDepth 100000 in
set_option maxHeartbeats 8000000 in
theorem thing_spec (w : World) (p : Program) (loose : List Str) (mean : ExcName → Option Value) (mg mb : Str → Option Value)
    (k : Int) (tb : Tok) (rest : List (Addr × Obj)) :
    Amb 1 w p loose mean mg mb 201 [.int k tb] rest
      (fun r news' => ∃ x d es nn, r = .ref x ∧ news' = (x, instObj 171 d) :: (d, dictOf es nn) :: rest ∧ ThingEs k es ∧ AllLt d rest ∧ @LT.lt Nat _ d x) := by
  w_top off
  unfold Amb
  k_fill
  intro dp un gd cn cs a ccd cl outer A₀ base h₀ L m s Q E B F X N T hk hd hu hret
  refine wpAny_call ?_
  k_dflt cell_enter
  k_steps
  · rename k = 0 => hk0
    subst hk0
    exact hret _ _ _ _ (by k_asm) (by k_asm) ⟨_, _, _, _, rfl, rfl, .mark _ _ _ _ _ _ _ _ _ _, by first | assumption | exact allLt_of (by assumption), by assumption⟩
  · exact hret _ _ _ _ (by k_asm) (by k_asm) ⟨_, _, _, _, rfl, rfl, .int _ (by assumption) _ _ _ _ _ _ _ _ _ _ _, by first | assumption | exact allLt_of (by assumption), by assumption⟩
set_option maxRecDepth 100000 in
set_option maxHeartbeats 8000000 in
theorem number_spec (w : World) (p : Program) (loose : List Str) (mean : ExcName → Option Value) (mg mb : Str → Option Value)
    (v : Value) (k : Int) (rest : List (Addr × Obj)) (hv : ThingIn rest v k) :
    Amb 1 w p loose mean mg mb 208 [v] rest (fun r news' => (∃ t, r = .int k t) ∧ news' = rest) := by
  unfold Amb
  k_fill
  intro dp un gd cn cs a ccd cl outer A₀ base h₀ L m s Q E B F X N T hk hd hu hret
  obtain ⟨x, d, es, nn, rfl, hx, hdx, he⟩ := hv
  cases he with
  | mark =>
    refine wpAny_call ?_
    k_dflt cell_enter
    k_steps
    all_goals exact hret _ _ _ _ (by k_asm) (by k_asm) ⟨⟨_, rfl⟩, rfl⟩
  | int _ hk0 =>
    refine wpAny_call ?_
    k_dflt cell_enter
    k_steps
    all_goals exact hret _ _ _ _ (by k_asm) (by k_asm) ⟨⟨_, rfl⟩, rfl⟩
end
section
/-- values that are Things of the ledger, number by number -/
inductive ThingsAre (led : List (Addr × Obj)) : List Value → List Int → Prop
  | nil : ThingsAre led [] []
  | cons {v : Value} {k : Int} {vs : List Value} {ns : List Int} : ThingIn led v k → ThingsAre led vs ns → ThingsAre led (v :: vs) (k :: ns)
theorem ThingsAre.mono {led led' : List (Addr × Obj)} {vs : List Value} {ns : List Int} (h : ThingsAre led vs ns) (hs : ∀ p ∈ led, p ∈ led') : ThingsAre led' vs ns := by
  w_top off
  induction h with
  | nil => exact .nil
  | cons a _ ih => exact .cons (a.mono hs) ih
theorem ThingsAre.length {led : List (Addr × Obj)} {vs : List Value} {ns : List Int} (h : ThingsAre led vs ns) : vs.length = ns.length := by
  induction h with
  | nil => rfl
  | cons _ _ ih => simp [ih]
theorem ThingsAre.append {led : List (Addr × Obj)} {vs ws : List Value} {ns ms : List Int} (h : ThingsAre led vs ns) (g : ThingsAre led ws ms) : ThingsAre led (vs ++ ws) (ns ++ ms) := by
  induction h with
  | nil => exact g
  | cons a _ ih => exact .cons a ih
theorem ThingsAre.take {led : List (Addr × Obj)} {vs : List Value} {ns : List Int} (h : ThingsAre led vs ns) : ∀ k, ThingsAre led (vs.take k) (ns.take k) := by
  induction h with
  | nil => intro k; simp only [List.take_nil]; exact .nil
  | cons a _ ih => intro k; cases k with
    | zero => exact .nil
    | succ k => exact .cons a (ih k)
theorem ThingsAre.drop {led : List (Addr × Obj)} {vs : List Value} {ns : List Int} (h : ThingsAre led vs ns) : ∀ k, ThingsAre led (vs.drop k) (ns.drop k) := by
  induction h with
  | nil => intro k; simp only [List.drop_nil]; exact .nil
  | cons a b ih => intro k; cases k with
    | zero => exact .cons a b
    | succ k => exact ih k
theorem ThingsAre.at {led : List (Addr × Obj)} {vs : List Value} {ns : List Int} (h : ThingsAre led vs ns) : ∀ (i : Nat) (v : Value), vs[i]? = some v → ∃ k, ns[i]? = some k ∧ ThingIn led v k := by
  induction h with
  | nil => intro i v e; simp at e
  | cons a _ ih => intro i v e; cases i with
    | zero => simp at e; subst e; exact ⟨_, rfl, a⟩
    | succ i => exact ih i v (by simpa using e)
/-- the turns of a comprehension by what holds between them -/
theorem comp_inv {prog : Program} {w : World} {A : Around} {h₀ : Heap} {L : Addr} {m : Str → Option Value} {env : Env} {elt : Expr} {x : Str} {scope : Scope} {cl : List (Str × Addr)} {s : Shared} {S : List (Addr × Obj) → Prop} {P : Nat → Value → Prop}
    {Fin : List Value → List (Addr × Obj) → Prop} {news : List (Addr × Obj)} {n : Nat} (J : Nat → List Value → List (Addr × Obj) → Prop) (start : J 0 [] news)
    (turn : ∀ i ys nw v I oI C oC D m₂ h tk (E' : Value → Shared → Prop), i < n → J i ys nw → P i v → LCg.NsObj oC m₂ → m₂ x = some v → Fr h₀ L h m → News h₀ L h ((I, oI) :: (C, oC) :: (D, LCg.lst ys) :: nw) → LCg.Off3 I C D nw → ((@Ne Nat I C) ∧ (@Ne Nat I D) ∧ (@Ne Nat C D)) →
      wpAny (model prog w) A (eval elt (compEnvC scope cl C env)) (LCg.CompEnd h₀ L m { s with heap := h, toks := tk } I oI C oC D (LCg.lst ys) S (fun y nw' => J (i + 1) (ys ++ [y]) nw')) E' { s with heap := h, toks := tk })
    (fin : ∀ ys nw, J n ys nw → Fin ys nw) : LCg.CompRest prog w A h₀ L m env elt x scope cl s S P Fin n 0 [] news := by
  have key : ∀ (j i : Nat) (ys : List Value) (nw : List (Addr × Obj)), i + j = n → J i ys nw → LCg.CompRest prog w A h₀ L m env elt x scope cl s S P Fin j i ys nw := by
    intro j
    induction j with
    | zero =>
      intro i ys nw hi hJ
      obtain rfl : i = n := by omega
      exact LCg.CompRest.zero (fin ys nw hJ)
    | succ j ih =>
      intro i ys nw hi hJ
      refine LCg.CompRest.succ ?_
      intro v I oI C oC D m₂ h tk E' hv hC hx F N off ne
      refine wpAny_mono (turn i ys nw v I oI C oC D m₂ h tk E' (by omega) hJ hv hC hx F N off ne) (fun y s₂ hq => ?_) fun _ _ e => e
      obtain ⟨h', tk', nw', e, F', N', off', hS, hJ'⟩ := hq
      exact ⟨h', tk', nw', e, F', N', off', hS, ih (i + 1) _ _ (by omega) hJ'⟩
  exact key n 0 [] news (by omega) start
/-- l is f, entry by entry, ahead of p -/
inductive Front : List (Addr × Obj) → List (Addr × Obj) → List (Addr × Obj) → Prop
  | nil {p} : Front p [] p
  | cons {q l f p} : Front l f p → Front (q :: l) (q :: f) p
theorem Front.eq {l f p : List (Addr × Obj)} (h : Front l f p) : l = f ++ p := by
  induction h with
  | nil => rfl
  | cons _ ih => rw [ih]; rfl
/-- none of pool's addresses is one of these -/
noncomputable def OffAll (pool : List (Addr × Obj)) : List (Addr × Obj) → Prop
  | [] => True
  | q :: r => (∀ p ∈ pool, p.1 ≠ q.1) ∧ OffAll pool r
theorem OffAll.of {pool : List (Addr × Obj)} : ∀ {l : List (Addr × Obj)}, (∀ q ∈ l, ∀ p ∈ pool, p.1 ≠ q.1) → OffAll pool l
  | [], _ => trivial
  | q :: _, h => ⟨h q (.head _), OffAll.of fun q hq => h q (.tail _ hq)⟩
theorem OffAll.mem {pool : List (Addr × Obj)} : ∀ {l : List (Addr × Obj)}, OffAll pool l → ∀ q ∈ l, ∀ p ∈ pool, p.1 ≠ q.1
  | [], _, _, hq => nomatch hq
  | _ :: _, h, q, hq => by
    rcases List.mem_cons.mp hq with rfl | hq
    · exact h.1
    · exact OffAll.mem h.2 q hq
theorem off1_ne {D : Addr} : ∀ {l : List (Addr × Obj)}, LCg.Off1 D l → ∀ p ∈ l, p.1 ≠ D
  | [], _, _, hp => nomatch hp
  | _ :: _, h, p, hp => by
    rcases List.mem_cons.mp hp with rfl | hp
    · exact h.1
    · exact off1_ne h.2 p hp
theorem said_M04_1 : True := by
  k_with "my tb_start" => (first | (first | (refine' Front.cons ?zqe; (case zqe => tb_start)) | exact Front.nil | fail "tb_start: no front") | fail)
  k_with "my k_all" => (first | (first | exact forall_sub (off1_ne (by assumption)) (by tb_rel) | fail "k_all: no Off1") | fail)
  trivial
/-- Things made one by one, ahead of the pool -/
def ThingsMade (front pool : List (Addr × Obj)) (ns : List Int) (ys : List Value) (nw : List (Addr × Obj)) : Prop :=
  ∃ new, nw = front ++ (new ++ pool) ∧ ThingsAre new ys ns ∧ ∀ q ∈ new, AllLt q.1 (front ++ pool)
/-- what is known of the pool behind it -/
theorem ThingsMade.out {front pool nw : List (Addr × Obj)} {ns : List Int} {ys : List Value} (h : ThingsMade front pool ns ys nw) (ho : OffAll pool front) :
    ∃ pool', nw = front ++ pool' ∧ (∀ p ∈ pool, p ∈ pool') ∧ ThingsAre pool' ys ns ∧ OffAll pool' front := by
  obtain ⟨new, e, hT, hlt⟩ := h
  refine ⟨new ++ pool, e, fun p hp => List.mem_append_right _ hp, hT.mono fun p hp => List.mem_append_left _ hp, OffAll.of fun q hq p hp => ?_⟩
  rcases List.mem_append.mp hp with hp | hp
  · exact Ne.symm (Nat.ne_of_lt (ktn_ltOf (hlt p hp) q (List.mem_append_left _ hq)))
  · exact ho.mem q hq p hp
set_option maxRecDepth 100000 in
set_option maxHeartbeats 8000000 in
theorem comp_things {w : World} {p : Program} {loose : List Str} {mean : ExcName → Option Value} {mg mb : Str → Option Value}
    {dp un : Nat} {gd : Option (List Code)} {cn : Str} {cs : Scope} {a : Addr} {ccd : Value} {ecl cl : List (Str × Addr)} {outer : List Env} {A₀ : Around} {base h₀ : Heap} {L : Addr} {m : Str → Option Value} {s : Shared} {p1 p2 p3 : Pos}
    {S : List (Addr × Obj) → Prop} {Fin : List Value → List (Addr × Obj) → Prop} {news₀ front pool : List (Addr × Obj)} {svs : List Value} {ss : List Int}
    (B : Below A₀ base outer h₀) (X : (Mine.hd.heap_1 w.params).In h₀) (T : Top p loose mean mg mb h₀) (hck : cs.kind = .function) (hd : dp + 30 < recursionLimit) (hu : un + 300 < cLine)
    (hf : Front news₀ front pool) (hI : IntsAre svs ss) (hS : ∀ new, S (front ++ (new ++ pool))) (fin : ∀ ys nw, ThingsMade front pool ss ys nw → Fin ys nw) :
    LCg.CompRest PySem.Challenge.rw_nt0483_01.row.prog w (ktrTop dp un gd cn cs L a ccd ecl outer) h₀ L m (envX cn cs L a ccd ecl)
      (Expr.Call (Expr.Name (Str.ofString "_law_thing") p1) [Expr.Name (Str.ofString "one") p2] [] p3) (Str.ofString "one")
      { kind := .function, names := [(Str.ofString ".0", .local), (Str.ofString "one", .local), (Str.ofString "_law_thing", .globalImplicit)], isGenerator := false, isCoroutine := false } cl s S (fun i v => svs.toArray[i]? = some v) Fin svs.toArray.size 0 [] news₀ := by
  revert X
  k_fill
  intro X
  have ef := hf.eq
  subst ef
  refine comp_inv (fun i ys nw => ThingsMade front pool (ss.take i) ys nw) ⟨[], rfl, .nil, fun _ h => nomatch h⟩ ?_ (fun ys nw hJ => fin ys nw ?_)
  · intro i ys nw v I oI C oC D m₂ h tk E' hi hJ hv hC hx F N off ne
    obtain ⟨new, rfl, hT, hlt⟩ := hJ
    obtain ⟨k, t, e, hk⟩ := IntsAre.at hI i v (by simpa using hv)
    subst e
    k_steps
    have hk8 := hk
    refine thing_spec w p loose mean mg mb _ _ _ _ _ _ _ _ _ _ _ _ _ _ _ _ _ _ _ _ B F X N T (by assumption) (by omega) (by omega) ?_
    rintro r news' h' tk' F' N' ⟨x, d, es, nn, rfl, rfl, he, l1, l2⟩
    simp only [AllLt] at l1
    obtain ⟨lI, lC, lD, l3⟩ := l1
    have l4 := ktn_ltOf l3
    have hsub : ∀ p ∈ new, p ∈ (x, instObj 171 d) :: (d, dictOf es nn) :: new := fun p hp => .tail _ (.tail _ hp)
    have off2 := off.mem
    refine LCg.CompEnd.intro F' N' (front ++ ((x, instObj 171 d) :: (d, dictOf es nn) :: (new ++ pool))) ?_ (LCg.Off3.of ?_) (hS ((x, instObj 171 d) :: (d, dictOf es nn) :: new)) ⟨(x, instObj 171 d) :: (d, dictOf es nn) :: new, rfl, ?_, ?_⟩
    · intro q hq
      simp only [List.mem_cons, List.mem_append] at hq ⊢
      grind
    · intro q hq
      rcases List.mem_append.mp hq with hq | hq
      · exact off2 q (List.mem_append_left _ hq)
      · rcases List.mem_cons.mp hq with rfl | hq
        · exact ⟨neN (by dsimp only; omega), neN (by dsimp only; omega), neN (by dsimp only; omega)⟩
        · rcases List.mem_cons.mp hq with rfl | hq
          · exact ⟨neN (by dsimp only; omega), neN (by dsimp only; omega), neN (by dsimp only; omega)⟩
          · exact off2 q (List.mem_append_right _ hq)
    · have e2 : ss.take (i + 1) = ss.take i ++ [k] := by rw [List.take_add_one, hk8]; rfl
      rw [e2]
      exact (hT.mono hsub).append (.cons ⟨x, d, es, nn, rfl, .head _, .tail _ (.head _), he⟩ .nil)
    · have hsub2 : ∀ p ∈ front ++ pool, p ∈ front ++ (new ++ pool) := fun p hp => by
        simp only [List.mem_append] at hp ⊢
        grind
      intro q hq
      rcases List.mem_cons.mp hq with rfl | hq
      · exact allLt_of fun p hp => Nat.lt_trans (l4 p (hsub2 p hp)) l2
      · rcases List.mem_cons.mp hq with rfl | hq
        · exact allLt_of fun p hp => l4 p (hsub2 p hp)
        · exact hlt q hq
  · have e : ss.take svs.toArray.size = ss := by rw [List.size_toArray, hI.length, List.take_length]
    rw [← e]; exact hJ
/-- the numbers of Things of the ledger -/
theorem comp_numbers {w : World} {p : Program} {loose : List Str} {mean : ExcName → Option Value} {mg mb : Str → Option Value}
    {dp un : Nat} {gd : Option (List Code)} {cn : Str} {cs : Scope} {a : Addr} {ccd : Value} {ecl cl : List (Str × Addr)} {outer : List Env} {A₀ : Around} {base h₀ : Heap} {L : Addr} {m : Str → Option Value} {s : Shared} {p1 p2 p3 : Pos}
    {S : List (Addr × Obj) → Prop} {Fin : List Value → List (Addr × Obj) → Prop} {news₀ : List (Addr × Obj)} {ts : List Value} {ns : List Int}
    (B : Below A₀ base outer h₀) (X : (Mine.hd.heap_1 w.params).In h₀) (T : Top p loose mean mg mb h₀) (hck : cs.kind = .function) (hd : dp + 30 < recursionLimit) (hu : un + 300 < cLine)
    (hT : ThingsAre news₀ ts ns) (hS : S news₀) (fin : ∀ ys, IntsAre ys ns → Fin ys news₀) :
    LCg.CompRest PySem.Challenge.rw_nt0483_01.row.prog w (ktrTop dp un gd cn cs L a ccd ecl outer) h₀ L m (envX cn cs L a ccd ecl)
      (Expr.Call (Expr.Name (Str.ofString "_law_number") p1) [Expr.Name (Str.ofString "one") p2] [] p3) (Str.ofString "one")
      { kind := .function, names := [(Str.ofString ".0", .local), (Str.ofString "one", .local), (Str.ofString "_law_number", .globalImplicit)], isGenerator := false, isCoroutine := false } cl s S (fun i v => ts.toArray[i]? = some v) Fin ts.toArray.size 0 [] news₀ := by
  revert X
  k_fill
  intro X
  refine comp_inv (fun i ys nw => nw = news₀ ∧ IntsAre ys (ns.take i)) ⟨rfl, .nil⟩ ?_ (fun ys nw hJ => ?_)
  · intro i ys nw v I oI C oC D m₂ h tk E' hi hJ hv hC hx F N off ne
    obtain ⟨rfl, hY⟩ := hJ
    obtain ⟨k, hk, hth⟩ := hT.at i v (by simpa using hv)
    have hth9 := hth
    obtain ⟨x0, d0, es0, nn0, rfl, _⟩ := hth9
    k_steps
    have hsub : ∀ p ∈ nw, p ∈ (I, oI) :: (C, oC) :: (D, LCg.lst ys) :: nw := fun p hp => .tail _ (.tail _ (.tail _ hp))
    refine number_spec w p loose mean mg mb _ _ _ (hth.mono hsub) _ _ _ _ _ _ _ _ _ _ _ _ _ _ _ _ _ B F X N T (by assumption) (by omega) (by omega) ?_
    rintro r news' h' tk' F' N' ⟨⟨t, rfl⟩, rfl⟩
    have e2 : ns.take (i + 1) = ns.take i ++ [k] := by rw [List.take_add_one, hk]; rfl
    refine LCg.CompEnd.intro F' N' nw (fun p hp => hp) off hS ⟨rfl, ?_⟩
    rw [e2]
    exact IntsAre.append hY (.cons k t .nil)
  · obtain ⟨rfl, hY⟩ := hJ
    have e : ns.take ts.toArray.size = ns := by rw [List.size_toArray, hT.length, List.take_length]
    rw [e] at hY
    exact fin ys hY
end
section
/-- the entries of a Stack's dict -/
abbrev stackEs (h1 h2 : Int) (t1 t2 t3 : Tok) (most : Int) (tl : Addr) : List DictEntry := [⟨h1, .str (Str.ofString "most") t1, .int most t2⟩, ⟨h2, .str (Str.ofString "things") t3, .ref tl⟩]
/-- a Stack and its list, ahead of the rest of the ledger -/
abbrev stackLed (h1 h2 : Int) (t1 t2 t3 : Tok) (most : Int) (ia idd tl : Addr) (ts : List Value) (n : Nat) (rest : List (Addr × Obj)) : List (Addr × Obj) :=
  (ia, instObj 149 idd) :: (idd, dictOf (stackEs h1 h2 t1 t2 t3 most tl) 2) :: (tl, W.listOf ts.toArray n) :: rest
/-- no two of a Stack's parts are one, and the rest is apart from them -/
structure StackApart (ia idd tl : Addr) (rest : List (Addr × Obj)) : Prop where
  a1 : @Ne Nat ia idd
  a2 : @Ne Nat ia tl
  a3 : @Ne Nat idd tl
  r1 : ∀ p ∈ rest, p.1 ≠ ia
  r2 : ∀ p ∈ rest, p.1 ≠ idd
  r3 : ∀ p ∈ rest, p.1 ≠ tl
theorem news_stack {h₀ h : Heap} {L : Addr} {h1 h2 : Int} {t1 t2 t3 : Tok} {most : Int} {ia idd tl : Addr} {ts : List Value} {n : Nat} {news r1 r2 r3 : List (Addr × Obj)} (N : News h₀ L h news)
    (e1 : Ext (ia, instObj 149 idd) news r1) (e2 : Ext (idd, dictOf (stackEs h1 h2 t1 t2 t3 most tl) 2) r1 r2) (e3 : Ext (tl, W.listOf ts.toArray n) r2 r3) : News h₀ L h (stackLed h1 h2 t1 t2 t3 most ia idd tl ts n r3) := by
  w_top off
  have a := e1.news (l' := []) N
  have b := e2.news (l' := [(ia, instObj 149 idd)]) a
  exact e3.news (l' := [(ia, instObj 149 idd), (idd, dictOf (stackEs h1 h2 t1 t2 t3 most tl) 2)]) b
set_option maxRecDepth 100000 in
set_option maxHeartbeats 8000000 in
theorem push_ok (w : World) (p : Program) (loose : List Str) (mean : ExcName → Option Value) (mg mb : Str → Option Value)
    {h1 h2 : Int} {t1 t2 t3 : Tok} {most : Int} {ia idd tl : Addr} {ts : List Value} {n : Nat} {rest : List (Addr × Obj)} {v : Value}
    (ap : StackApart ia idd tl rest) (hl : (ts.length : Int) < most) (hm : most ≤ 100) :
    Amb 1 w p loose mean mg mb 76 [.ref ia, v] (stackLed h1 h2 t1 t2 t3 most ia idd tl ts n rest)
      (fun r news' => r = .none ∧ ∃ n', news' = stackLed h1 h2 t1 t2 t3 most ia idd tl (ts ++ [v]) n' rest) := by
  unfold Amb
  k_fill
  intro dp un gd cn cs a ccd cl outer A₀ base h₀ L m s Q E B F X N T hk hd hu hret
  obtain ⟨a1, a2, a3, r1, r2, r3⟩ := ap
  unfold stackLed stackEs at *
  refine wpAny_call ?_
  k_dflt cell_enter
  k_steps
  exact hret _ _ _ _ (by k_asm) (by k_asm) ⟨rfl, _, rfl⟩
set_option maxRecDepth 100000 in
set_option maxHeartbeats 8000000 in
theorem pop_ok (w : World) (p : Program) (loose : List Str) (mean : ExcName → Option Value) (mg mb : Str → Option Value)
    {h1 h2 : Int} {t1 t2 t3 : Tok} {most : Int} {ia idd tl : Addr} {ts : List Value} {n : Nat} {rest : List (Addr × Obj)} {v : Value}
    (ap : StackApart ia idd tl rest) (hl : (ts.length : Int) < 100) :
    Amb 1 w p loose mean mg mb 90 [.ref ia] (stackLed h1 h2 t1 t2 t3 most ia idd tl (ts ++ [v]) n rest)
      (fun r news' => r = v ∧ ∃ n', news' = stackLed h1 h2 t1 t2 t3 most ia idd tl ts n' rest) := by
  unfold Amb
  k_fill
  intro dp un gd cn cs a ccd cl outer A₀ base h₀ L m s Q E B F X N T hk hd hu hret
  obtain ⟨a1, a2, a3, r1, r2, r3⟩ := ap
  unfold stackLed stackEs at *
  refine wpAny_call ?_
  k_dflt cell_enter
  k_steps
  · exfalso
    simp only [List.append_eq_nil_iff, List.cons_ne_nil, and_false, decide_false, Bool.false_eq_true] at *
  · exact hret _ _ _ _ (by k_asm) (news_sub (by k_asm) (by tb_rel)) ⟨rfl, _, rfl⟩
set_option maxRecDepth 100000 in
set_option maxHeartbeats 8000000 in
theorem at_ok (w : World) (p : Program) (loose : List Str) (mean : ExcName → Option Value) (mg mb : Str → Option Value)
    {h1 h2 : Int} {t1 t2 t3 : Tok} {most : Int} {ia idd tl : Addr} {ts : List Value} {n : Nat} {rest : List (Addr × Obj)} {v : Value} {k : Int} {t : Tok}
    (ap : StackApart ia idd tl rest) (hl : (ts.length : Int) < 100) (hk0 : 0 ≤ k) (hk1 : k < ts.length) (hv : ts[(ts.length - 1 - k : Int).toNat]? = some v) :
    Amb 1 w p loose mean mg mb 97 [.ref ia, .int k t] (stackLed h1 h2 t1 t2 t3 most ia idd tl ts n rest)
      (fun r news' => r = v ∧ news' = stackLed h1 h2 t1 t2 t3 most ia idd tl ts n rest) := by
  unfold Amb
  k_fill
  intro dp un gd cn cs a ccd cl outer A₀ base h₀ L m s Q E B F X N T hk hd hu hret
  obtain ⟨a1, a2, a3, r1, r2, r3⟩ := ap
  unfold stackLed stackEs at *
  refine wpAny_call ?_
  k_dflt cell_enter
  k_steps
  exact hret _ _ _ _ (by k_asm) (by k_asm) ⟨rfl, rfl⟩
set_option maxRecDepth 100000 in
set_option maxHeartbeats 8000000 in
theorem top_ok (w : World) (p : Program) (loose : List Str) (mean : ExcName → Option Value) (mg mb : Str → Option Value)
    {h1 h2 : Int} {t1 t2 t3 : Tok} {most : Int} {ia idd tl : Addr} {ts : List Value} {n : Nat} {rest : List (Addr × Obj)} {k : Int} {t : Tok}
    (ap : StackApart ia idd tl rest) (hl : (ts.length : Int) < 100) (hk0 : 0 ≤ k) (hk1 : k ≤ ts.length) :
    Amb 1 w p loose mean mg mb 104 [.ref ia, .int k t] (stackLed h1 h2 t1 t2 t3 most ia idd tl ts n rest)
      (fun r news' => ∃ D n', r = .ref D ∧ news' = (D, W.listOf (ts.drop (ts.length - k.toNat)).toArray n') :: stackLed h1 h2 t1 t2 t3 most ia idd tl ts n rest ∧ AllLt D (stackLed h1 h2 t1 t2 t3 most ia idd tl ts n rest)) := by
  unfold Amb
  k_fill
  intro dp un gd cn cs a ccd cl outer A₀ base h₀ L m s Q E B F X N T hk hd hu hret
  obtain ⟨a1, a2, a3, r1, r2, r3⟩ := ap
  unfold stackLed stackEs at *
  refine wpAny_call ?_
  k_dflt cell_enter
  k_steps
  have e : ((ts.length : Int) - k).toNat = ts.length - k.toNat := by omega
  rw [← e] at hret
  refine hret _ _ _ _ (by k_asm) (by k_asm) ⟨_, _, rfl, rfl, ?_⟩
  simp only [AllLt]
  assumption
end
section
theorem said_M06_1 : True := by
  k_with "call ref" => (first | ((k_here; (with_reducible show wpAny _ _ (call (Value.ref 104) [Value.ref _, Value.int _ _]) _ _ _); k_dflt (refine' Amb.use (top_ok _ _ _ _ _ _ ?zqap ?zqhl ?zqh0 ?zqh1) ?zqB ?zqF ?zqX (news_stack ?zqN ?zqe1 ?zqe2 ?zqe3) ?zqT ?zqhk ?zqhd ?zqhu ?_; walk_at "sd ae"; walk_at "sd t"; walk_at "sd p"; (case zqhl => lcg_off); (case zqh0 => lcg_off); (case zqh1 => lcg_off)); rintro zqr' zqnews' zqh' zqtk' zqF' zqN' ⟨zqD', zqn', zqe1', zqe2', zql1⟩; subst zqe1' zqe2'; (try dsimp only [stackLed, stackEs] at zqN'); (have zql2' := zql1); (try simp only [AllLt, and_true] at zql1); (try k_sweep))) | fail)
  trivial
set_option maxRecDepth 100000 in
set_option maxHeartbeats 8000000 in
theorem cut_ok (w : World) (p : Program) (loose : List Str) (mean : ExcName → Option Value) (mg mb : Str → Option Value)
    {h1 h2 : Int} {t1 t2 t3 : Tok} {most : Int} {ia idd tl : Addr} {ts : List Value} {n : Nat} {rest : List (Addr × Obj)} {k : Int} {t : Tok}
    (ap : StackApart ia idd tl rest) (hl : (ts.length : Int) < 100) (hk0 : 0 ≤ k) :
    Amb 1 w p loose mean mg mb 118 [.ref ia, .int k t] (stackLed h1 h2 t1 t2 t3 most ia idd tl ts n rest)
      (fun r news' => r = .none ∧ ∃ D n', news' = stackLed h1 h2 t1 t2 t3 most ia idd D (ts.take k.toNat) n' rest ∧ StackApart ia idd D rest ∧ AllNe D rest) := by
  w_top off
  unfold Amb
  k_fill
  intro dp un gd cn cs a ccd cl outer A₀ base h₀ L m s Q E B F X N T hk hd hu hret
  obtain ⟨a1, a2, a3, r1, r2, r3⟩ := ap
  unfold stackLed stackEs at *
  refine wpAny_call ?_
  k_dflt cell_enter
  k_steps
  (with_reducible rename ia < _ ∧ _ => l1)
  obtain ⟨b1, b2, b3, b4⟩ := l1
  rename News h₀ L _ _ => kN
  refine hret _ _ _ _ (by k_asm) (news_sub kN (l' := stackLed _ _ _ _ _ _ _ _ _ _ _ rest) (by tb_rel)) ⟨rfl, _, _, rfl, ⟨a1, by k_ne, by k_ne, r1, r2, by k_all⟩, allNe_of (by k_all)⟩
set_option maxRecDepth 100000 in
set_option maxHeartbeats 8000000 in
theorem putBack_ok (w : World) (p : Program) (loose : List Str) (mean : ExcName → Option Value) (mg mb : Str → Option Value)
    {h1 h2 : Int} {t1 t2 t3 : Tok} {most : Int} {ia idd tl sn : Addr} {ts vs : List Value} {n : Nat} {rest : List (Addr × Obj)}
    (ap : StackApart ia idd tl rest) (hl : (ts.length : Int) < 100) (hl2 : (vs.length : Int) < 100) (hs : (sn, ({ cls := .type "tuple", data := .seq vs.toArray } : Obj)) ∈ rest) :
    Amb 1 w p loose mean mg mb 146 [.ref ia, .ref sn] (stackLed h1 h2 t1 t2 t3 most ia idd tl ts n rest)
      (fun r news' => r = .none ∧ ∃ D n', news' = stackLed h1 h2 t1 t2 t3 most ia idd D vs n' rest ∧ StackApart ia idd D rest ∧ AllNe D rest) := by
  unfold Amb
  k_fill
  intro dp un gd cn cs a ccd cl outer A₀ base h₀ L m s Q E B F X N T hk hd hu hret
  obtain ⟨a1, a2, a3, r1, r2, r3⟩ := ap
  unfold stackLed stackEs at *
  refine wpAny_call ?_
  k_dflt cell_enter
  k_steps
  (with_reducible rename ia < _ ∧ _ => l1)
  obtain ⟨b1, b2, b3, b4⟩ := l1
  rename News h₀ L _ _ => kN
  refine hret _ _ _ _ (by k_asm) (news_sub kN (l' := stackLed _ _ _ _ _ _ _ _ _ _ _ rest) (by tb_rel)) ⟨rfl, _, _, rfl, ⟨a1, by k_ne, by k_ne, r1, r2, by k_all⟩, allNe_of (by k_all)⟩
set_option maxRecDepth 100000 in
set_option maxHeartbeats 8000000 in
theorem pushAll_ok (w : World) (p : Program) (loose : List Str) (mean : ExcName → Option Value) (mg mb : Str → Option Value)
    {h1 h2 : Int} {t1 t2 t3 : Tok} {most : Int} {ia idd tl sl : Addr} {ts ws : List Value} {n n2 : Nat} {rest : List (Addr × Obj)}
    (ap : StackApart ia idd tl rest) (hl : (ts.length : Int) + ws.length ≤ most) (hm : most ≤ 100) (hs : (sl, W.listOf ws.toArray n2) ∈ rest) :
    Amb 1 w p loose mean mg mb 83 [.ref ia, .ref sl] (stackLed h1 h2 t1 t2 t3 most ia idd tl ts n rest)
      (fun r news' => r = .none ∧ ∃ n', news' = stackLed h1 h2 t1 t2 t3 most ia idd tl (ts ++ ws) n' rest) := by
  unfold Amb
  k_fill
  intro dp un gd cn cs a ccd cl outer A₀ base h₀ L m s Q E B F X N T hk hd hu hret
  obtain ⟨a1, a2, a3, r1, r2, r3⟩ := ap
  unfold stackLed stackEs at *
  refine wpAny_call ?_
  k_dflt cell_enter
  k_steps
  exact hret _ _ _ _ (by k_asm) (by k_asm) ⟨rfl, _, rfl⟩
end
section
set_option maxRecDepth 100000 in
set_option maxHeartbeats 8000000 in
theorem toMark_ok (w : World) (p : Program) (loose : List Str) (mean : ExcName → Option Value) (mg mb : Str → Option Value)
    {h1 h2 : Int} {t1 t2 t3 : Tok} {most : Int} {ia idd tl : Addr} {ts : List Value} {ns : List Int} {n : Nat} {rest : List (Addr × Obj)} {d : Nat}
    (ap : StackApart ia idd tl rest) (hT : ThingsAre rest ts ns) (hl : ts.length < 100) (hd0 : d < ts.length) (hz : ns[ts.length - 1 - d]? = some 0) (hnz : ∀ j, j < d → ns[ts.length - 1 - j]? ≠ some 0) :
    Amb 1 w p loose mean mg mb 132 [.ref ia] (stackLed h1 h2 t1 t2 t3 most ia idd tl ts n rest)
      (fun r news' => (∃ t, r = .int (d : Int) t) ∧ news' = stackLed h1 h2 t1 t2 t3 most ia idd tl ts n rest) := by
  w_top off
  unfold Amb
  k_fill
  intro dp un gd cn cs a ccd cl outer A₀ base h₀ L m s Q E B F X N T hk hd hu hret
  obtain ⟨a1, a2, a3, r1, r2, r3⟩ := ap
  unfold stackLed stackEs at *
  refine wpAny_call ?_
  k_dflt cell_enter
  repeat' (first | ((fail_if_success (with_reducible show wpAny _ _ (PySem.pyIter _) _ _ _)); first | (k_unfold; (try dsimp only)) | (k_end; wrow_close) | walk1 | (dsimp only; walk1) | (refine Sealed.use (by with_reducible assumption) ?_; (try dsimp only))))
  rename IsRange _ _ _ _ _ _ _ _ => R
  rename Fr _ _ _ _ => F1
  rename News _ _ _ _ => N1
  refine m_range (fun i m nx => i ≤ d ∧ (∀ z, z ≠ Str.ofString "depth" → m z = (fun y => List.lookup y [(Str.ofString "self", Value.ref ia)]) z) ∧ nx = stackLed h1 h2 t1 t2 t3 most ia idd tl ts n rest) (by rfl) R rfl (by omega) F1 N1 ⟨Nat.zero_le _, fun z _ => rfl, rfl⟩ ?_ ?_
  · rintro i t m₁ nx hh tk' I oI hi ⟨hid, hm, rfl⟩ hoff F2 N2
    rw [map_none hm] at F2
    have hi2 : ts.length - 1 - i < ts.length := by omega
    have e1 : ((ts.length : Int) - 1 - (i : Int)).toNat = ts.length - 1 - i := by omega
    have hv : ts[((ts.length : Int) - 1 - (i : Int)).toNat]? = some ts[ts.length - 1 - i] := by rw [e1]; simp [hi2]
    obtain ⟨k, hk1, x, dd, es, nn, hx0, hx, hdx, he⟩ := hT.at (ts.length - 1 - i) _ (by rw [← e1]; exact hv)
    rw [hx0] at hv
    cases he with
    | mark =>
      k_steps
      have hid2 : i = d := by
        refine Nat.le_antisymm hid (Nat.le_of_not_lt fun hlt => ?_)
        exact hnz i hlt hk1
      subst hid2
      dsimp only [TurnEnd]
      k_steps
      exact hret _ _ _ _ (by k_asm) (news_sub (by k_asm) (by tb_rel)) ⟨⟨_, rfl⟩, rfl⟩
    | int _ hk0 =>
      k_steps
      have hid2 : i ≠ d := fun e => by
        subst e
        rw [hz] at hk1
        exact hk0 (Option.some.inj hk1).symm
      exact ⟨_, _, _, _, rfl, by k_asm, by k_asm, hoff, by omega, fun z hz => if_neg hz, rfl⟩
  · rintro m₁ nx hh tk' ⟨hid, hm, rfl⟩
    omega
end
section
theorem said_M08_1 : True := by
  k_with "call ref" => (first | ((k_here; (with_reducible show wpAny _ _ (call (Value.ref 118) [Value.ref _, Value.int _ _]) _ _ _); k_dflt (refine' Amb.use (cut_ok _ _ _ _ _ _ ?zqap ?zqhl ?zqh0) ?zqB ?zqF ?zqX (news_stack ?zqN ?zqe1 ?zqe2 ?zqe3) ?zqT ?zqhk ?zqhd ?zqhu ?_; walk_at "sd ae"; walk_at "sd t"; walk_at "sd p"; (case zqhl => lcg_off); (case zqh0 => lcg_off)); rintro zqr' zqnews' zqh' zqtk' zqF' zqN' ⟨zqe1', zqD', zqn', zqe2', ⟨zqb1, zqb2, zqb3, zqb4, zqb5, zqb6⟩, zql1⟩; subst zqe1' zqe2'; (try dsimp only [stackLed, stackEs] at zqN'); (have zql2' := zql1); (try simp only [AllNe, and_true] at zql1); (try k_sweep))) | fail)
  trivial
set_option maxRecDepth 100000 in
set_option maxHeartbeats 8000000 in
theorem take_ok (w : World) (p : Program) (loose : List Str) (mean : ExcName → Option Value) (mg mb : Str → Option Value)
    {h1 h2 : Int} {t1 t2 t3 : Tok} {most : Int} {ia idd tl : Addr} {ts : List Value} {n : Nat} {rest : List (Addr × Obj)} {k : Int} {t : Tok}
    (ap : StackApart ia idd tl rest) (hl : (ts.length : Int) < 100) (hk0 : 0 ≤ k) (hk1 : k ≤ ts.length) :
    Amb 2 w p loose mean mg mb 111 [.ref ia, .int k t] (stackLed h1 h2 t1 t2 t3 most ia idd tl ts n rest)
      (fun r news' => ∃ D n1 D2 n', r = .ref D ∧ news' = stackLed h1 h2 t1 t2 t3 most ia idd D2 (ts.take (ts.length - k.toNat)) n' ((D, W.listOf (ts.drop (ts.length - k.toNat)).toArray n1) :: rest) ∧
        StackApart ia idd D2 ((D, W.listOf (ts.drop (ts.length - k.toNat)).toArray n1) :: rest) ∧ AllNe D2 ((D, W.listOf (ts.drop (ts.length - k.toNat)).toArray n1) :: rest) ∧ (@Ne Nat ia D ∧ @Ne Nat idd D ∧ AllNe D rest)) := by
  w_top off
  unfold Amb
  k_fill
  intro dp un gd cn cs a ccd cl outer A₀ base h₀ L m s Q E B F X N T hk hd hu hret
  obtain ⟨a1, a2, a3, r1, r2, r3⟩ := ap
  unfold stackLed stackEs at *
  refine wpAny_call ?_
  k_dflt cell_enter
  k_steps
  rename News h₀ L _ _ => kN
  have e : ((ts.length : Int) - k).toNat = ts.length - k.toNat := by omega
  rw [e] at kN
  refine' hret _ _ _ _ (by k_asm) (news_sub kN ?sub) ⟨_, _, _, _, rfl, rfl, ⟨a1, ?g1, ?g2, ?g3, ?g4, ?g5⟩, allNe_of ?g6, ?g7, ?g8, allNe_of ?g9⟩
  case sub => tb_rel
  case g1 => k_ne
  case g2 => k_ne
  case g3 => k_all
  case g4 => k_all
  case g5 => k_all
  case g6 => k_all
  case g7 => k_ne
  case g8 => k_ne
  case g9 => k_all
set_option maxRecDepth 100000 in
set_option maxHeartbeats 8000000 in
theorem rolled_ok (w : World) (p : Program) (loose : List Str) (mean : ExcName → Option Value) (mg mb : Str → Option Value)
    {h1 h2 : Int} {t1 t2 t3 : Tok} {most : Int} {ia idd tl : Addr} {ts : List Value} {n : Nat} {rest : List (Addr × Obj)} {k by_ : Int} {t tb : Tok}
    (ap : StackApart ia idd tl rest) (hl : (ts.length : Int) < 100) (hk0 : 0 ≤ k) (hk1 : k ≤ ts.length) :
    Amb 2 w p loose mean mg mb 125 [.ref ia, .int k t, .int by_ tb] (stackLed h1 h2 t1 t2 t3 most ia idd tl ts n rest)
      (fun r news' => r = .none ∧ ∃ D n', news' = stackLed h1 h2 t1 t2 t3 most ia idd D
          (if k ≤ 1 then ts else ts.take (ts.length - k.toNat) ++ ((ts.drop (ts.length - k.toNat)).drop (k - by_.fmod k).toNat ++ (ts.drop (ts.length - k.toNat)).take (k - by_.fmod k).toNat)) n' rest ∧
        StackApart ia idd D rest ∧ AllNe D rest) := by
  unfold Amb
  k_fill
  intro dp un gd cn cs a ccd cl outer A₀ base h₀ L m s Q E B F X N T hk hd hu hret
  obtain ⟨a1, a2, a3, r1, r2, r3⟩ := ap
  unfold stackLed stackEs at *
  have hf : 1 < k → 0 ≤ by_.fmod k ∧ by_.fmod k < k := fun h => fmod_range (by omega)
  refine wpAny_call ?_
  k_dflt cell_enter
  k_steps
  · rename News h₀ L _ _ => kN
    have e : ((ts.length : Int) - k).toNat = ts.length - k.toNat := by omega
    rw [e] at kN
    refine' hret _ _ _ _ (by k_asm) (news_sub kN ?sub) ⟨rfl, _, _, rfl, ⟨a1, ?g2, ?g3, r1, r2, ?g4⟩, allNe_of ?g5⟩
    case sub => rw [if_neg (by omega)]; tb_rel
    case g2 => k_ne
    case g3 => k_ne
    case g4 => k_all
    case g5 => k_all
  · refine' hret _ _ _ _ (by k_asm) ?N ⟨rfl, tl, n, rfl, ⟨a1, a2, a3, r1, r2, r3⟩, allNe_of r3⟩
    rw [if_pos (by omega)]
    rename News h₀ L _ (_ :: _ :: _) => kN
    exact news_sub kN (by tb_rel)
end
section
theorem news_two {h₀ h : Heap} {L : Addr} {q1 q2 : Addr × Obj} {news r1 r2 : List (Addr × Obj)} (N : News h₀ L h news) (e1 : Ext q1 news r1) (e2 : Ext q2 r1 r2) : News h₀ L h (q1 :: q2 :: r2) :=
  e2.news (l' := [q1]) (e1.news (l' := []) N)
theorem said_M09_1 : True := by
  k_with "call ref" => (first | ((k_here; (with_reducible show wpAny _ _ (call (Value.ref 187) [Value.ref _, Value.int _ _]) _ _ _); k_dflt (refine' Amb.use (draw_spec _ _ _ _ _ _ _ _ _ _ _ _ _ _ _ _ _ _ _ ?zqhod ?zqhne ?zqr1 ?zqr2 ?zqhI ?zqhlen ?zqt0 ?zqt1 ?zqb0 ?zqb1) ?zqB ?zqF ?zqX (news_two ?zqN ?zqe1 ?zqe2) ?zqT ?zqhk ?zqhd ?zqhu ?_; walk_at "sd a"; (case zqe1 => tb_start); (case zqhod => k_asm); (case zqe2 => tb_start); (case zqhne => k_ne); (case zqr1 => k_all); (case zqr2 => k_all); (case zqhI => k_asm); (case zqhlen => lcg_off); (case zqt0 => omega); (case zqt1 => omega); (case zqb0 => omega); (case zqb1 => omega); walk_at "sd t"); rintro zqr' zqnews' zqh' zqtk' zqF' zqN' ⟨zqk', zqt', zqo', zqcvs', zqcs', zqn', zqt2', zqe1', zqhk0', zqhk1', zqe2', zqhod', zqhI', zqhlen'⟩; subst zqe1' zqe2'; (try k_sweep))) | fail)
  k_with "subscriptTail" => (first | ((k_here; (with_reducible show wpAny _ _ (subscriptTail _ _ (Value.ref _) (Value.int _ _)) _ _ _); k_dflt (refine m_item (by k_asm) (by k_mem) (by omega) (List.getElem?_eq_getElem (by omega)) (by lcg_off) ?_ (by with_unfolding_all rfl) (by kmk_pure)))) | fail)
  trivial
/-- a list turned by a number of places -/
def turnedL {α : Type} (vs : List α) (n : Int) : List α := vs.drop ((vs.length : Int) - n.fmod vs.length).toNat ++ vs.take ((vs.length : Int) - n.fmod vs.length).toNat
set_option maxRecDepth 100000 in
set_option maxHeartbeats 8000000 in
theorem turned_spec (w : World) (p : Program) (loose : List Str) (mean : ExcName → Option Value) (mg mb : Str → Option Value)
    {il : Addr} {ivs : List Value} {ns : List Int} {n : Nat} {news : List (Addr × Obj)} {by_ : Int} {tb : Tok} (hm : (il, W.listOf ivs.toArray n) ∈ news) (hI : IntsAre ivs ns) (hl : ivs.length ≤ 100) :
    Amb 1 w p loose mean mg mb 222 [.ref il, .int by_ tb] news
      (fun r news' => ∃ D n', r = .ref D ∧ news' = (D, W.listOf (turnedL ivs by_).toArray n') :: news ∧ AllLt D news) := by
  w_top off
  unfold Amb
  k_fill
  intro dp un gd cn cs a ccd cl outer A₀ base h₀ L m s Q E B F X N T hk hd hu hret
  have hlen : ivs.length = 0 ∨ 1 ≤ ivs.length := by omega
  rcases hlen with h0 | h0
  · obtain rfl := List.eq_nil_of_length_eq_zero h0
    refine wpAny_call ?_
    k_dflt cell_enter
    k_steps
    have e : turnedL ([] : List Value) by_ = [] := by simp [turnedL]
    rw [e] at hret
    rename News h₀ L _ (_ :: _ :: _) => kN
    refine' hret _ _ _ _ (by k_asm) (news_sub kN ?sub) ⟨_, 0, rfl, rfl, ?g⟩
    case sub => tb_rel
    case g => exact (‹@LT.lt Nat _ _ _ ∧ AllLt _ news›).2
  · have hf := fmod_range (a := by_) (b := (ivs.length : Int)) (by omega)
    have hnn : ivs ≠ [] := fun e => by rw [e] at h0; simp at h0
    refine wpAny_call ?_
    k_dflt cell_enter
    k_steps
    rename News h₀ L _ (_ :: _ :: _) => kN
    refine' hret _ _ _ _ (by k_asm) (news_sub kN ?sub) ⟨_, 0, rfl, rfl, ?g⟩
    case sub => tb_rel
    case g => exact (‹@LT.lt Nat _ _ _ ∧ @LT.lt Nat _ _ _ ∧ @LT.lt Nat _ _ _ ∧ AllLt _ news›).2.2.2
set_option maxRecDepth 100000 in
set_option maxHeartbeats 8000000 in
theorem pick_spec (w : World) (p : Program) (loose : List Str) (mean : ExcName → Option Value) (mg mb : Str → Option Value)
    (dk dc sl : Addr) (o : Obj) (mixed turn : Int) (t1 t2 : Tok) (cvs svs : List Value) (ns ss : List Int) (rest : List (Addr × Obj)) (n n2 : Nat)
    (hod : o.IsDictOf (strKind PySem.Challenge.rw_nt0483_01.row.prog w) (deckKvs dc mixed t1 turn t2))
    (hne : @Ne Nat dk dc) (hr1 : ∀ p ∈ rest, p.1 ≠ dk) (hr2 : ∀ p ∈ rest, p.1 ≠ dc) (hI : IntsAre cvs ns) (hlen : ns.length ≤ 16)
    (ht0 : 0 ≤ turn) (ht1 : turn ≤ 1000) (hs : (sl, W.listOf svs.toArray n2) ∈ rest) (hI2 : IntsAre svs ss) (hs1 : 1 ≤ svs.length) (hs2 : svs.length ≤ 100) :
    Amb 2 w p loose mean mg mb 194 [.ref dk, .ref sl] ((dk, o) :: (dc, W.listOf cvs.toArray n) :: rest)
      (fun r news' => ∃ k t o' cvs' cs' n' t2', r = .int k t ∧ news' = (dk, o') :: (dc, W.listOf (List.toArray cvs') n') :: rest ∧
        o'.IsDictOf (strKind PySem.Challenge.rw_nt0483_01.row.prog w) (deckKvs dc mixed t1 (turn + 1) t2') ∧ IntsAre cvs' cs' ∧ cs'.length ≤ 16) := by
  unfold Amb
  k_fill
  intro dp un gd cn cs a ccd cl outer A₀ base h₀ L m s Q E B F X N T hk hd hu hret
  refine wpAny_call ?_
  k_dflt cell_enter
  k_steps
  have key : ∀ (i : Nat) (h : i < svs.length) (st : Shared), (∀ q t, Q (.int q t) st) → Q svs[i] st := fun i h st hq => by
    obtain ⟨q, t, e, _⟩ := IntsAre.at hI2 i svs[i] (by simp [h])
    rw [e]; exact hq q t
  exact key _ _ _ fun q t => hret _ _ _ _ (by k_asm) (by k_asm) ⟨q, t, _, _, _, _, _, rfl, rfl, by k_asm, by k_asm, by k_asm⟩
end
section
/-- drawn one by one -/
def MyDrawn (w : World) (dk dc : Addr) (mixed turn : Int) (t1 : Tok) (rest : List (Addr × Obj)) (below : Int) (i : Nat) (ys : List Value) (nw : List (Addr × Obj)) : Prop :=
  ∃ o' cvs' cs' js n' t2', nw = (dk, o') :: (dc, W.listOf (List.toArray cvs') n') :: rest ∧ o'.IsDictOf (strKind PySem.Challenge.rw_nt0483_01.row.prog w) (deckKvs dc mixed t1 (turn + (i : Int)) t2') ∧ IntsAre cvs' cs' ∧ cs'.length ≤ 16 ∧
    IntsAre ys js ∧ js.length = i ∧ ∀ j ∈ js, 0 ≤ j ∧ j < below
set_option maxRecDepth 100000 in
set_option maxHeartbeats 8000000 in
theorem comp_draws {w : World} {p : Program} {loose : List Str} {mean : ExcName → Option Value} {mg mb : Str → Option Value}
    {dp un : Nat} {gd : Option (List Code)} {cn : Str} {cs : Scope} {a : Addr} {ccd : Value} {ecl cl : List (Str × Addr)} {outer : List Env} {A₀ : Around} {base h₀ : Heap} {L : Addr} {m : Str → Option Value} {s : Shared} {p1 p2 p3 p4 : Pos} {scope : Scope}
    {Fin : List Value → List (Addr × Obj) → Prop} {dk dc c : Addr} {o oc : Obj} {mixed turn : Int} {t1 t2 : Tok} {cvs : List Value} {ns : List Int} {rest : List (Addr × Obj)} {n : Nat} {num : Nat}
    (B : Below A₀ base outer h₀) (X : (Mine.hd.heap_1 w.params).In h₀) (T : Top p loose mean mg mb h₀) (hck : cs.kind = .function) (hd : dp + 30 < recursionLimit) (hu : un + 300 < cLine)
    (hod : o.IsDictOf (strKind PySem.Challenge.rw_nt0483_01.row.prog w) (deckKvs dc mixed t1 turn t2)) (hne : @Ne Nat dk dc) (hr1 : ∀ p ∈ rest, p.1 ≠ dk) (hr2 : ∀ p ∈ rest, p.1 ≠ dc) (hI : IntsAre cvs ns) (hlen : ns.length ≤ 16)
    (ht0 : 0 ≤ turn) (ht1 : turn ≤ 900) (hnum : num ≤ 20) (hcl : cl.lookup (Str.ofString "deck") = some c) (hc : (c, oc) ∈ rest) (hcd : oc.data = .cell (some (.ref dk)))
    (hsc : scope = { kind := .function, names := [(Str.ofString ".0", .local), (Str.ofString "turn", .local), (Str.ofString "_law_draw", .globalImplicit), (Str.ofString "deck", .free)], isGenerator := false, isCoroutine := false })
    (hxd : ∀ C, (compEnvC scope cl C (envX cn cs L a ccd ecl)).kindOf (Str.ofString "deck") = some .cell)
    (fin : ∀ ys nw, MyDrawn w dk dc mixed turn t1 rest 4 num ys nw → Fin ys nw) :
    LCg.CompRest PySem.Challenge.rw_nt0483_01.row.prog w (ktrTop dp un gd cn cs L a ccd ecl outer) h₀ L m (envX cn cs L a ccd ecl)
      (Expr.Call (Expr.Name (Str.ofString "_law_draw") p1) [Expr.Name (Str.ofString "deck") p2, Expr.Constant (.int 4) 0 p3] [] p4) (Str.ofString "turn")
      scope cl s (fun _ => True) (fun i v => ∃ t, v = .int (0 + (i : Int)) t) Fin num 0 [] ((dk, o) :: (dc, W.listOf cvs.toArray n) :: rest) := by
  w_top off
  subst hsc
  revert X
  k_fill
  intro X
  refine comp_inv (fun i ys nw => MyDrawn w dk dc mixed turn t1 rest 4 i ys nw) ⟨o, cvs, ns, [], n, t2, rfl, by simpa using hod, hI, hlen, .nil, rfl, fun _ h => nomatch h⟩ ?_ (fun ys nw hJ => fin ys nw hJ)
  intro i ys nw v I oI C oC D m₂ h tk E' hi hJ hv hC hx F N off ne
  obtain ⟨o', cvs', cs', js, n', t2', rfl, hod', hI', hlen', hY, hjl, hjr⟩ := hJ
  obtain ⟨t, rfl⟩ := hv
  simp only [LCg.Off3] at off
  k_steps
  refine kcf_cell N hcl (by k_mem) hcd ?_ rfl (hxd _)
  k_steps
  have e : turn + ((i + 1 : Nat) : Int) = turn + (i : Int) + 1 := by omega
  refine' LCg.CompEnd.intro (by k_asm) (by k_asm) ((dk, _) :: (dc, W.listOf (List.toArray _) _) :: rest) ?sub ?off True.intro ⟨_, _, _, js ++ [_], _, _, rfl, ?d, by k_asm, by k_asm, ints_snoc hY _ _, ?l, ?r⟩
  case sub => tb_rel
  case off => exact ⟨off.1, off.2.1, off.2.2⟩
  case d => rw [e]; k_asm
  case l => simp [hjl]
  case r =>
    intro j hj
    rcases List.mem_append.mp hj with hj | hj
    · exact hjr j hj
    · rw [List.mem_singleton.mp hj]
      exact ⟨by k_asm, by k_asm⟩
end
section
open Builtin Builtin.ObjectAttr
set_option maxRecDepth 100000
set_option maxHeartbeats 4000000
/-- the tail of an own exception class's order: one own class, then the built-in ones -/
abbrev excTail (P : Addr) : List Value := [.ref P, .type "Exception", .type "BaseException", .type "object"]
abbrev excRaw (C t : Addr) : Obj := { cls := .ref C, data := .fields #[.ref t, .none, .none, .none, .bool false, .none] }
abbrev excWith (C t dd : Addr) : Obj := { cls := .ref C, dict := some dd, data := .fields #[.ref t, .none, .none, .none, .bool false, .none] }
abbrev tupObj (vs : List Value) : Obj := { cls := .type "tuple", data := .seq vs.toArray }
theorem tail_B {C P : Addr} : (Value.ref C :: excTail P).contains (.type "Exception") = true := by simp [excTail]
theorem tail_Base {C P : Addr} : (Value.ref C :: excTail P).contains (.type "BaseException") = true := by simp [excTail]
theorem tail_A {C P : Addr} : (Value.ref C :: excTail P).contains (.type "AttributeError") = false := by simp [excTail]
theorem tail_N {C P : Addr} : (Value.ref C :: excTail P).contains (.type "NameError") = false := by simp [excTail]
theorem tail_O {C P : Addr} : (Value.ref C :: excTail P).contains (.type "object") = true := by simp [excTail]
theorem tail_self {C P : Addr} : (Value.ref C :: excTail P).contains (.ref C) = true := by simp
section
variable {prog : Program} {w : World} {A : Around} {E : Value → Shared → Prop} {h : Heap} {g : Array GenState} {d : Drawn} {t : Nat} {os : OsState}
variable {nm q : Str} {C N P : Addr} {bs : List Value} {hdct : Bool} {sn : List Str} {sub : List Value} {ab : Bool} {col : Option Bool} {dd : Option Addr} {k0 k1 k2 k3 k5 : Option Value}
theorem x_check_new {M : Model} {rest : List Value} {Q : Unit → Shared → Prop} (hC : h.get? C = some (excClassObj nm q C N bs (excTail P) hdct sn sub ab col dd k0 k1 k2 k3 k5 "Exception.__new__"))
    (hq : Q () ⟨h, g, d, t, os⟩) : wpAny M A (checkBuiltinCall "Exception.__new__" ⟨.ref C :: rest, []⟩) Q E ⟨h, g, d, t, os⟩ := by
  w_top off
  have F := PySem.F.excBase_Exception
  have hstar := F.noStar
  simp only [checkBuiltinCall, F.newKind, F.newSplit, F.newRow]
  repeat (first | refine wpAny_loadPart_at hC ?_ | (refine wpAny_isSubtype_exc hC ?_; rw [tail_B]) | refine wpAny_staticBase_exc hC ?_ | refine wpAny_madeBy_exc hC ?_ | simp only [bne_self_eq_false, Bool.false_eq_true, if_false] | wp_step)
  exact hq
theorem x_new {R : Result → Shared → Prop} {rest : List Value} (hC : h.get? C = some (excClassObj nm q C N bs (excTail P) hdct sn sub ab col dd k0 k1 k2 k3 k5 "Exception.__new__"))
    (hq : R (.ok (.ret (.ref (h.objs.size + 1)))) ⟨(h.push (tupObj rest)).push (excRaw C h.objs.size), g, d, t, os⟩) (hrest : rest.length ≤ sizeLine) :
    codeAny (model prog w) A (.builtin "Exception.__new__" ⟨.ref C :: rest, []⟩) R ⟨h, g, d, t, os⟩ := by
  have F := PySem.F.excBase_Exception
  have hends := F.ends
  refine codeAny_builtinAt F.entry ?_
  unfold Builtin.«BaseException.__new__»
  refine PySem.wpAt_bind ?_
  show PySem.wpAt _ _ _ (stack >>= _) _ _ _
  refine PySem.wpAt_bind (PySem.wpAt_stack fun p below => PySem.wpAt_of_wpAny ?_)
  wp_walk
  refine PySem.wpAt_of_wpAny ?_
  rw [F.owner]
  repeat (first | with_reducible refine wpAny_madeHere_exc F.canon hC ?_ | with_reducible refine wpAny_loadPart_at hC ?_ | (with_reducible refine wpAny_isSubtype_exc hC ?_; first | rw [tail_B] | rw [tail_A] | rw [tail_N]) | wp_step)
  show R _ _
  rw [Heap.size_push]
  exact hq
theorem x_type_call {K : Frag} {rest : List Value} {fI : Addr} {Q : Fin → Shared → Prop} (X : K.In h)
    (hC : h.get? C = some (excClassObj nm q C N bs (excTail P) hdct sn sub ab col dd k0 k1 k2 k3 k5 "Exception.__new__")) (hi : findIn K (.ref C) "__init__" = some (some (.ref fI)))
    (hf : typeIn K (.ref fI) = some (.type "function")) (hrest : rest.length ≤ sizeLine)
    (hq : wpAny (model prog w) A (call (.ref fI) (.ref (h.objs.size + 1) :: rest)) (fun r s' => r = .none ∧ Q (.done (.ret (.ref (h.objs.size + 1)))) s') E ⟨(h.push (tupObj rest)).push (excRaw C h.objs.size), g, d, t, os⟩) :
    wpAny (model prog w) A (Builtin.«type.__call__» ⟨.ref C :: rest, []⟩) Q E ⟨h, g, d, t, os⟩ := by
  have F := PySem.F.excBase_Exception
  repeat (first | with_reducible refine wpAny_loadPart_at hC ?_ | with_reducible refine wpAny_madeBy_exc hC ?_ | wp_step)
  refine codeAny_call_builtin_code (Code.quiet_builtin _ F.quiet) (x_check_new hC ?_)
  refine x_new hC ?_ hrest
  show wpAny _ _ _ _ _ _
  have hC₁ := Heap.get?_push_of_some (excRaw C h.objs.size) (Heap.get?_push_of_some (tupObj rest) hC)
  have X₁ : K.In ((h.push (tupObj rest)).push (excRaw C h.objs.size)) := X.keeps fun b o e => Heap.get?_push_of_some _ (Heap.get?_push_of_some _ e)
  have hget : ((h.push (tupObj rest)).push (excRaw C h.objs.size)).get? (h.objs.size + 1) = some (excRaw C h.objs.size) := by heap_get
  have tcls : Looks (model prog w) ((h.push (tupObj rest)).push (excRaw C h.objs.size)) (typeOf (.ref (h.objs.size + 1))) (.ref C) := (Looks.ld hget).andThen .now
  unfold isInstance
  repeat (first | with_reducible refine wpAny_loadPart_at hget ?_ | (with_reducible refine wpAny_isSubtype_exc hC₁ ?_; rw [tail_self]) | wp_step)
  show wpAny _ _ (typeLookup (.ref C) _) _ _ _
  refine (looks_findIn X₁ hi).here ?_
  refine wpAny_holding (wpAny_bind ((bind_fn X₁ _ hf).here ?_))
  refine wpAny_bind (wpAny_mono hq (fun r s' hr => ?_) fun _ _ x => x)
  obtain ⟨rfl, hQ⟩ := hr
  wp_walk
  exact hQ
theorem x_call {K : Frag} {rest : List Value} {fI : Addr} {Q : Value → Shared → Prop} (X : K.In h)
    (hC : h.get? C = some (excClassObj nm q C N bs (excTail P) hdct sn sub ab col dd k0 k1 k2 k3 k5 "Exception.__new__")) (hi : findIn K (.ref C) "__init__" = some (some (.ref fI)))
    (hf : typeIn K (.ref fI) = some (.type "function")) (hrest : rest.length ≤ sizeLine)
    (hq : wpAny (model prog w) (A.under (.builtin "type.__call__" ⟨.ref C :: rest, []⟩)) (call (.ref fI) (.ref (h.objs.size + 1) :: rest)) (fun r s' => r = .none ∧ Q (.ref (h.objs.size + 1)) s') E ⟨(h.push (tupObj rest)).push (excRaw C h.objs.size), g, d, t, os⟩) :
    wpAny (model prog w) A (call (.ref C) rest) Q E ⟨h, g, d, t, os⟩ := by
  have f1 := tc_lookup
  have f2 := tc_bind (.ref C)
  have hT : (⟨h, g, d, t, os⟩ : Shared).TypeIs (.ref C) "type" := ⟨_, hC, rfl⟩
  refine wpAny_call (codeAny_of_tree ?_)
  show wpAny _ _ (callAny (.ref C) _) _ _ _
  repeat (any_goals (first | assumption | with_reducible refine wpAny_loadPart_at hC ?_ | wp_step))
  refine ⟨rfl, ?_⟩
  refine codeAny_call_builtin_at (Code.quiet_builtin _ (by decide +kernel)) entry_typeCall (wpAny_check_type_call_sub hC (x_type_call X hC hi hf hrest ?_))
  exact hq
end
section
variable {prog : Program} {w : World} {A : Around} {E : Value → Shared → Prop} {s : Shared} {h₀ : Heap} {L : Addr} {m : Str → Option Value} {news : List (Addr × Obj)}
variable {nm q : Str} {C N P : Addr} {bs : List Value} {hdct : Bool} {sn : List Str} {sub : List Value} {ab : Bool} {col : Option Bool} {dd : Option Addr} {k0 k1 k2 k3 k5 : Option Value} {K : Frag}
theorem x_make {rest : List Value} {fI : Addr} {Q : Value → Shared → Prop} (F : Fr h₀ L s.heap m) (NN : News h₀ L s.heap news) (X₀ : K.In h₀)
    (hC : K.lookup C = some (excClassObj nm q C N bs (excTail P) hdct sn sub ab col dd k0 k1 k2 k3 k5 "Exception.__new__")) (hi : findIn K (.ref C) "__init__" = some (some (.ref fI)))
    (hf : typeIn K (.ref fI) = some (.type "function")) (hrest : rest.length ≤ 1000)
    (hq : ∀ e t h', Fr h₀ L h' m → News h₀ L h' ((e, excRaw C t) :: (t, tupObj rest) :: news) → (∀ p ∈ (t, tupObj rest) :: news, p.1 < e) →
      wpAny (model prog w) (A.under (.builtin "type.__call__" ⟨.ref C :: rest, []⟩)) (call (.ref fI) (.ref e :: rest)) (fun r s' => r = .none ∧ Q (.ref e) s') E { s with heap := h' }) :
    wpAny (model prog w) A (call (.ref C) rest) Q E s := by
  obtain ⟨hh, g, d, t, os⟩ := s
  have X := X₀.keeps F.keep
  refine x_call X (X _ _ hC) hi hf (by rw [sizeLine_eq]; omega) (hq _ _ _ ((F.push _).push _) ?_ (fun p hp => by
    rcases List.mem_cons.mp hp with rfl | hp
    · exact Nat.lt_succ_self _
    · exact Nat.lt_succ_of_lt (Heap.lt_size (NN p hp).1)))
  have := (NN.push F (tupObj rest)).push (F.push _) (excRaw C hh.objs.size)
  rwa [Heap.size_push] at this
theorem x_store {name : Str} {v : Value} {e t : Addr} {rest : List (Addr × Obj)} {Q : Unit → Shared → Prop} (F : Fr h₀ L s.heap m) (NN : News h₀ L s.heap ((e, excRaw C t) :: rest)) (X₀ : K.In h₀)
    (hC : K.lookup C = some (excClassObj nm q C N bs (excTail P) true sn sub ab col dd k0 k1 k2 k3 k5 "Exception.__new__"))
    (hs : findIn K (.ref C) "__setattr__" = some (some (.builtin "object.__setattr__"))) (hn : findIn K (.ref C) name = some none) (hne : ∀ p ∈ rest, p.1 ≠ e)
    (hput : Obj.putName name (PyData.keyHash w.params name) (.str name (s.toks + 1)) v emptyDict = dictOf [⟨PyData.keyHash w.params name, .str name (s.toks + 1), v⟩] 1)
    (hq : ∀ d h', Fr h₀ L h' m → News h₀ L h' ((e, excWith C t d) :: (d, dictOf [⟨PyData.keyHash w.params name, .str name (s.toks + 1), v⟩] 1) :: rest) → (∀ p ∈ (d, dictOf [⟨PyData.keyHash w.params name, .str name (s.toks + 1), v⟩] 1) :: rest, p.1 ≠ e) → Q () { s with heap := h', toks := s.toks + 1 + 1 }) :
    wpAny (model prog w) A (setAttr (.ref e) name v) Q E s := by
  have X := X₀.keeps F.keep
  have he := (NN _ (.head _)).1
  have I : PySem.W.InstAt s.heap e (excRaw C t) C none := ⟨he, rfl, rfl, trivial⟩
  have SF := PySem.F.store_object
  have SE := PySem.F.store_Exception
  refine set_plain X I hs ?_
  have hcd : clsIn K C = some { name := nm, bases := bs, mro := .ref C :: excTail P, ns := N, qualname := q, hasDict := true, slotNames := sn, subclasses := sub, abstract := ab, collection := col, hasDel := false } := by unfold clsIn; rw [hC]
  have sub' : Looks (model prog w) s.heap (isInstance (.ref e) (.type "object")) true := I.type.andThen (looks_mroIn X (by unfold mroIn; rw [hcd, Option.bind_some, if_neg (by simp)]; exact congrArg some tail_O))
  refine codeAny_call_builtin SF.slot.plain SF.entry (@check_slot (model prog w) _ _ { s with toks := s.toks + 1 } "object.__setattr__" "object" "__setattr__" (.ref e) [.str name s.toks, v] [] _ SF.kind SF.split sub' (SF.args (.ref e) (.str name s.toks) v) ?_)
  have hm : Looks (model prog w) s.heap (mroOf (.ref C)) (.ref C :: excTail P) := (looks_clsIn X hcd).andThen .now
  rw [osa_eq, refuse_eq]
  obtain ⟨hh, g, dr, tk, os⟩ := s
  dsimp only at *
  refine wpAny_bind (wpAny_bind (I.type.at (wpAny_bind (hm.at ?_))))
  rw [refuseLoop_ref, refuseLoop_ref, SE.passes]
  refine wpAny_pure (wpAny_bind (I.type.at (wpAny_bind ((looks_findIn X hn).at (wpAny_bind ?_)))))
  refine wpAny_pure ?_
  dsimp only
  have hxs : e ≠ hh.objs.size := Nat.ne_of_lt (Heap.lt_size he)
  have N₁ := NN.push F emptyDict
  obtain ⟨U1, U2⟩ := news_upd (pre := [(hh.objs.size, emptyDict)]) (post := rest) (f := fun o => { o with dict := some hh.objs.size }) (o' := excWith C t hh.objs.size) (F.push emptyDict) N₁ (by simpa using hxs.symm) hne rfl rfl
  obtain ⟨V1, V2⟩ := news_upd (pre := []) (post := (e, excWith C t hh.objs.size) :: rest) (f := Obj.putName name (PyData.keyHash w.params name) (.str name (tk + 1)) v) U1 U2 (by simp) (by
    intro p hp
    rcases List.mem_cons.mp hp with rfl | hp
    · exact hxs
    · exact Nat.ne_of_lt (Heap.lt_size (NN p (.tail _ hp)).1)) hput rfl
  have D := (U2 _ (.head _)).1
  have D' := (V2 _ (.head _)).1
  have he₁ := (N₁ _ (.tail _ (.head _))).1
  refine wpAny_bind (wpAny_pure (wpAny_bind (wpAny_bind (wpAny_loadPart he (wpAny_bind ((looks_clsIn X hcd).at ?_))))))
  dsimp only
  refine wpAny_bind (wpAny_alloc' (wpAny_bind (wpAny_update' he₁ ?_)))
  refine wpAny_pure (a := some hh.objs.size) (wpAny_bind (wpAny_pure (wpAny_bind ?_)))
  unfold nsSet
  refine wpAny_bind (wpAny_bind (wpAny_askSetting (wpAny_pure (wpAny_bind (wpAny_mkText (wpAny_bind (wpAny_loadPart D ?_)))))))
  dsimp only [emptyDict]
  rw [aRefKeyMayBeTheName_at]
  rw [if_neg (by simp)]
  refine wpAny_updatePart D ?_
  refine wpAny_bind (wpAny_lookBehind D' (by exact pastItsLine_dict (by simp)) ?_)
  refine wpAny_pure ?_
  refine hq hh.objs.size _ V1 ?_ ?_
  rotate_left
  · intro p hp
    rcases List.mem_cons.mp hp with rfl | hp
    · exact hxs.symm
    · exact hne p hp
  intro p hp
  rcases List.mem_cons.mp hp with rfl | hp
  · exact V2 _ (.tail _ (.head _))
  rcases List.mem_cons.mp hp with rfl | hp
  · exact V2 _ (.head _)
  · exact V2 _ (.tail _ (.tail _ hp))
end
end
section
set_option maxRecDepth 100000
set_option maxHeartbeats 4000000
theorem dict_mapFields (o : Obj) (f) : (o.mapFields f).dict = o.dict := by
  w_top off
  obtain ⟨c, d, dt, sl⟩ := o; cases dt <;> rfl
/-- the exception e of class cls with the dict dd is on its way; its track T stands at fl -/
def OnWay (h base : Heap) (e : Addr) (cls : Value) (dd : Addr) (fl : Value) : Prop :=
  ∃ oe vs T oT ts, h.get? e = some oe ∧ oe.cls = cls ∧ oe.dict = some dd ∧ oe.data = .fields vs ∧ vs[1]? = some (.ref T) ∧ base.get? T = none ∧ T ≠ e ∧ h.get? T = some oT ∧ oT.data = .fields ts ∧ ts[3]? = some fl
theorem OnWay.obj {h base : Heap} {e : Addr} {cls fl : Value} {dd : Addr} (x : OnWay h base e cls dd fl) : ∃ oe vs, h.get? e = some oe ∧ oe.cls = cls ∧ oe.dict = some dd ∧ oe.data = .fields vs := by
  obtain ⟨oe, vs, _, _, _, he, hc, hdd, hd, _⟩ := x
  exact ⟨oe, vs, he, hc, hdd, hd⟩
/-- what a step with the exception leaves: the base, the frames, the exception, and every other object but for slots -/
structure Kept (base : Heap) (l : List Env) (e : Addr) (cls : Value) (dd : Addr) (fl : Value) (h h' : Heap) : Prop where
  stays : base.StaysIn h'
  frames : h'.FunFrames base l
  way : OnWay h' base e cls dd fl
  slots : h.UpToSlots h'
section
variable {M : Model} {A : Around} {E : Value → Shared → Prop} {s : Shared} {base : Heap} {env : Env} {outer l : List Env} {L e dd : Addr} {cls : Value} {Q : Unit → Shared → Prop}
theorem w_entry {oe : Obj} {vs : Array Value} {head : Value} {hadNext : Bool} (hfr : A.frames = some (env :: outer)) (hl : s.heap.FunFrames base (env :: outer)) (hf : env.frame = some L)
    (he : s.heap.get? e = some oe) (hkb : base.StaysIn s.heap) (hen : base.get? e = none) (hc : oe.cls = cls) (hdd : oe.dict = some dd) (hd : oe.data = .fields vs) (hsz : 1 < vs.size)
    (h : ∀ h', Kept base (env :: outer) e cls dd (rawInt L) s.heap h' → Q () { s with heap := h' }) :
    wpAny M A (do let a ← frameOf env; let pl ← entryPlaceOf L hadNext; let b ← EntryCells.newEntry head a .none (rawInt L) .none pl; setField (.ref e) 1 b) Q E s := by
  have apart : ∀ b o, s.heap.get? b = some o → (∀ ws, o.data ≠ .fields ws) → b ≠ e := fun b o hb hn q => by
    rw [q, he] at hb; cases hb; exact hn vs hd
  have eOff : e ∉ (env :: outer).filterMap (·.frame) := fun hm => by
    obtain ⟨_, o, ho, hn⟩ := hl.mem hm
    exact apart e o ho hn rfl
  refine wpAny_bind (wpAny_frameOf_fun hfr hl hf fun h₁ f₁ => ?_)
  refine wpAny_bind (wpAny_entryPlaceOf fun pl hpl => ?_)
  unfold EntryCells.newEntry newFields
  refine wpAny_bind (wpAny_newObj_type ?_ (hpl.sizeOk5 _ _ _ _ _))
  have e₁ : h₁.get? e = some oe := (f₁.2.1 e eOff).trans he
  have b₁ : base.StaysIn h₁ := fun b o hb => (f₁.2.1 b fun hm => by rw [(hl.mem hm).1] at hb; cases hb).trans (hkb b o hb)
  generalize hD : (Data.fields ([head, .ref L, .none, rawInt L, .none] ++ (if pl.isEmpty then List.replicate 6 Value.none else pl)).toArray) = D
  have e₂ := Heap.get?_push_of_some (h := h₁) { cls := .type "traceback", dict := none, data := D } e₁
  refine wpAny_setField e₂ hd hsz (h _ ?_)
  have hTe : h₁.objs.size ≠ e := Nat.ne_of_gt (Heap.lt_size e₁)
  have d₃ := Obj.data_mapFields hd (·.setIfInBounds 1 (Value.ref h₁.objs.size))
  have e₃ := Heap.get?_update_self (Obj.mapFields (·.setIfInBounds 1 (Value.ref h₁.objs.size))) e₂ (Obj.isFreed_of_fields d₃)
  have T₃ := (Heap.get?_update_other (h₁.push { cls := .type "traceback", dict := none, data := D }) (Obj.mapFields (·.setIfInBounds 1 (Value.ref h₁.objs.size))) (Ne.symm hTe)).trans (Heap.get?_push_size h₁ (by subst hD; rfl))
  have keep : ∀ b o, b ≠ e → h₁.get? b = some o → ((h₁.push { cls := .type "traceback", dict := none, data := D }).update e (Obj.mapFields (·.setIfInBounds 1 (Value.ref h₁.objs.size)))).get? b = some o :=
    fun b o hb ho => (Heap.get?_update_other _ _ (Ne.symm hb)).trans (Heap.get?_push_of_some _ ho)
  have slots : s.heap.UpToSlots ((h₁.push { cls := .type "traceback", dict := none, data := D }).update e (Obj.mapFields (·.setIfInBounds 1 (Value.ref h₁.objs.size)))) := fun b o hb hn => by
    obtain ⟨sl, hs⟩ := f₁.2.2 b o hb
    exact ⟨sl, keep b _ (apart b o hb hn) hs⟩
  refine ⟨fun b o hb => keep b o (fun q => by rw [q, hen] at hb; cases hb) (b₁ b o hb), hl.of_keeps fun b o hb hn => ?_, ?_, slots⟩
  · obtain ⟨sl, hs⟩ := slots b o hb hn
    exact ⟨_, hs, rfl⟩
  · refine ⟨_, _, h₁.objs.size, _, _, e₃, (Obj.cls_mapFields _ _).trans hc, (dict_mapFields _ _).trans hdd, d₃, by simp [hsz], b₁.fresh, hTe, T₃, hD.symm, ?_⟩
    first | (simp; done) | (rcases hpl with rfl | ⟨_, _, _, _, _, _, _, rfl⟩ <;> simp)
theorem w_note_first {oe : Obj} {vs : Array Value} (hfr : A.frames = some (env :: outer)) (hl : s.heap.FunFrames base (env :: outer)) (hf : env.frame = some L)
    (he : s.heap.get? e = some oe) (hkb : base.StaysIn s.heap) (hen : base.get? e = none) (hc : oe.cls = cls) (hdd : oe.dict = some dd) (hd : oe.data = .fields vs) (h1 : vs[1]? = some .none)
    (h : ∀ h', Kept base (env :: outer) e cls dd (rawInt L) s.heap h' → Q () { s with heap := h' }) : wpAny M A (noteFrame (.ref e) env) Q E s := by
  unfold noteFrame
  simp only [hf]
  refine wpAny_bind (wpAny_field he hd h1 ?_)
  rw [if_neg (by decide)]
  exact w_entry hfr hl hf he hkb hen hc hdd hd (Array.getElem?_eq_some_iff.mp h1).1 h
theorem w_note_next (hfr : A.frames = some (env :: outer)) (hl : s.heap.FunFrames base (env :: outer)) (hf : env.frame = some L) (hkb : base.StaysIn s.heap) (hen : base.get? e = none) (ht : OnWay s.heap base e cls dd .none)
    (h : ∀ h', Kept base (env :: outer) e cls dd (rawInt L) s.heap h' → Q () { s with heap := h' }) : wpAny M A (noteFrame (.ref e) env) Q E s := by
  obtain ⟨oe, vs, T, oT, ts, he, hc, hdd, hd, h1, hnT, hTe, hT, hdT, h3⟩ := ht
  unfold noteFrame
  simp only [hf]
  refine wpAny_bind (wpAny_field he hd h1 ?_)
  rw [if_pos (show (Value.ref T != Value.none) = true from by simp)]
  refine wpAny_bind (wpAny_field hT hdT h3 ?_)
  rw [if_neg (show ¬ ((Value.none == rawInt L) = true) from by simp [rawInt])]
  refine wpAny_bind (wpAny_setField hT hdT (Array.getElem?_eq_some_iff.mp h3).1 ?_)
  have other : ∀ b, b ≠ T → (s.heap.update T (Obj.mapFields (·.setIfInBounds 3 Value.none))).get? b = s.heap.get? b := fun b hb => Heap.get?_update_other _ _ (Ne.symm hb)
  have apart : ∀ b o, s.heap.get? b = some o → (∀ ws, o.data ≠ .fields ws) → b ≠ T := fun b o hb hn q => by
    rw [q, hT] at hb; cases hb; exact hn ts hdT
  refine w_entry hfr (hl.of_keeps fun b o hb hn => ⟨o, (other b (apart b o hb hn)).trans hb, rfl⟩) hf ((other e (Ne.symm hTe)).trans he)
    (fun b o hb => (other b fun q => by rw [q, hnT] at hb; cases hb).trans (hkb b o hb)) hen hc hdd hd (Array.getElem?_eq_some_iff.mp h1).1 fun h' k => h h' ⟨k.stays, k.frames, k.way, fun b o hb hn => k.slots b o ((other b (apart b o hb hn)).trans hb) hn⟩
theorem w_set {fl : Value} (hkb : base.StaysIn s.heap) (hl : s.heap.FunFrames base l) (ht : OnWay s.heap base e cls dd fl)
    (h : ∀ h', Kept base l e cls dd .none s.heap h' → Q () { s with heap := h' }) : wpAny M A (setFlight (.ref e) none) Q E s := by
  obtain ⟨oe, vs, T, oT, ts, he, hc, hdd, hd, h1, hnT, hTe, hT, hdT, h3⟩ := ht
  have z : 3 < ts.size := (Array.getElem?_eq_some_iff.mp h3).1
  unfold setFlight
  refine wpAny_bind (wpAny_field he hd h1 ?_)
  rw [if_pos (show (Value.ref T != Value.none) = true from by simp)]
  have other : ∀ b, b ≠ T → (s.heap.update T (Obj.mapFields (·.setIfInBounds 3 ((none : Option Addr).elim Value.none fun f => rawInt f)))).get? b = s.heap.get? b :=
    fun b hb => Heap.get?_update_other _ _ (Ne.symm hb)
  have apart : ∀ b o, s.heap.get? b = some o → (∀ ws, o.data ≠ .fields ws) → b ≠ T := fun b o hb hn q => by
    rw [q, hT] at hb; cases hb; exact hn ts hdT
  have keep : ∀ b o, s.heap.get? b = some o → (∀ ws, o.data ≠ .fields ws) → (s.heap.update T (Obj.mapFields (·.setIfInBounds 3 ((none : Option Addr).elim Value.none fun f => rawInt f)))).get? b = some o :=
    fun b o hb hn => (other b (apart b o hb hn)).trans hb
  refine wpAny_setField hT hdT z (h _ ⟨fun b o hb => (other b fun q => by rw [q, hnT] at hb; cases hb).trans (hkb b o hb), hl.of_keeps fun b o hb hn => ⟨o, keep b o hb hn, rfl⟩, ?_, fun b o hb hn => ⟨o.slots, keep b o hb hn⟩⟩)
  exact ⟨oe, vs, T, _, _, (other e (Ne.symm hTe)).trans he, hc, hdd, hd, h1, hnT, hTe, Heap.get?_update_self _ hT (Obj.isFreed_of_fields (Obj.data_mapFields hdT _)), Obj.data_mapFields hdT _, by simp [z]⟩
theorem w_leave_first {oe : Obj} {vs : Array Value} (hfr : A.frames = some (env :: outer)) (hl : s.heap.FunFrames base (env :: outer)) (hf : env.frame = some L)
    (he : s.heap.get? e = some oe) (hkb : base.StaysIn s.heap) (hen : base.get? e = none) (hc : oe.cls = cls) (hdd : oe.dict = some dd) (hd : oe.data = .fields vs) (h1 : vs[1]? = some .none)
    (h : ∀ h', Kept base (env :: outer) e cls dd .none s.heap h' → Q () { s with heap := h' }) : wpAny M A (leaving env (.ref e)) Q E s :=
  wpAny_bind (w_note_first hfr hl hf he hkb hen hc hdd hd h1 fun h₁ k₁ => w_set (s := { s with heap := h₁ }) k₁.stays k₁.frames k₁.way fun h₂ k₂ => h h₂ ⟨k₂.stays, k₂.frames, k₂.way, k₁.slots.trans k₂.slots⟩)
theorem w_leave_next (hfr : A.frames = some (env :: outer)) (hl : s.heap.FunFrames base (env :: outer)) (hf : env.frame = some L) (hkb : base.StaysIn s.heap) (hen : base.get? e = none) (ht : OnWay s.heap base e cls dd .none)
    (h : ∀ h', Kept base (env :: outer) e cls dd .none s.heap h' → Q () { s with heap := h' }) : wpAny M A (leaving env (.ref e)) Q E s :=
  wpAny_bind (w_note_next hfr hl hf hkb hen ht fun h₁ k₁ => w_set (s := { s with heap := h₁ }) k₁.stays k₁.frames k₁.way fun h₂ k₂ => h h₂ ⟨k₂.stays, k₂.frames, k₂.way, k₁.slots.trans k₂.slots⟩)
end
/-- the exception e has left the frames ahead of l; news is the ledger that stays -/
def OutOf (base G : Heap) (l : List Env) (e : Addr) (cls : Value) (dd : Addr) (news : List (Addr × Obj)) (h : Heap) : Prop :=
  ∃ B, base.StaysIn B ∧ (∀ b o, G.get? b = some o → b ∉ l.filterMap (·.frame) → B.get? b = some o) ∧ (∀ q ∈ news, B.get? q.1 = some q.2 ∧ G.get? q.1 = none ∧ base.get? q.1 = none) ∧
    B.StaysIn h ∧ B.get? e = none ∧ h.FunFrames B l ∧ OnWay h B e cls dd .none
section
variable {M : Model} {A : Around} {E : Value → Shared → Prop} {s' : Shared} {base g g₂ : Heap} {outer : List Env} {L a e dd : Addr} {m : Str → Option Value} {name : Str} {scope : Scope} {cd cls : Value} {Q : Unit → Shared → Prop} {news : List (Addr × Obj)}
theorem out_first {oe : Obj} {vs : Array Value} (K : Below A base outer g) (F : Fr g L s'.heap m) (N : News g L s'.heap ((e, oe) :: news)) (hne : ∀ p ∈ news, p.1 ≠ e)
    (hc : oe.cls = cls) (hdd : oe.dict = some dd) (hd : oe.data = .fields vs) (h1 : vs[1]? = some .none)
    (hQ : ∀ h', OutOf base g outer e cls dd news h' → g.UpToSlots h' → Q () { s' with heap := h' }) (hk : scope.kind = .function) :
    wpAny M (A.deeper (envOf name scope L a cd)) (leaving (envOf name scope L a cd) (.ref e)) Q E s' := by
  have K' := K.push (name := name) (a := a) (cd := cd) F hk
  have hin : ∀ env ∈ (envOf name scope L a cd :: outer), ∀ b, env.frame = some b → b ∈ e :: (envOf name scope L a cd :: outer).filterMap (·.frame) := fun env he b hb => .tail _ (List.mem_filterMap.mpr ⟨env, he, hb⟩)
  have offG : ∀ b o, g.get? b = some o → b ≠ e := fun b o q z => by have := (N _ (.head _)).2.2; rw [← z, q] at this; cases this
  have st : base.StaysIn (hideAll s'.heap (e :: (envOf name scope L a cd :: outer).filterMap (·.frame))) := fun b o q => hideAll_get _ (K'.stays b o q) fun hm => by
    rcases List.mem_cons.mp hm with z | hm
    · exact offG b o (K.stays b o q) z
    · rw [(K'.frames.mem hm).1] at q; cases q
  have sg : ∀ b o, g.get? b = some o → b ∉ outer.filterMap (·.frame) → (hideAll s'.heap (e :: (envOf name scope L a cd :: outer).filterMap (·.frame))).get? b = some o := fun b o q nm => hideAll_get _ (F.keep b o q) fun hm => by
    rcases List.mem_cons.mp hm with z | hm
    · exact offG b o q z
    rcases kts_mem hm with z | z
    · rw [z, kts_self F] at q
      cases q
    · exact nm z
  have hl : ∀ q ∈ news, (hideAll s'.heap (e :: (envOf name scope L a cd :: outer).filterMap (·.frame))).get? q.1 = some q.2 ∧ g.get? q.1 = none ∧ base.get? q.1 = none := fun q hq => by
    have nq := N q (.tail _ hq)
    refine ⟨hideAll_get _ nq.1 fun hm => ?_, nq.2.2, fresh_of_stays K.stays nq.2.2⟩
    rcases List.mem_cons.mp hm with z | hm
    · exact hne q hq z
    rcases kts_mem hm with z | z
    · exact nq.2.1 z
    · obtain ⟨_, o, ho, _⟩ := K.frames.mem z
      rw [nq.2.2] at ho; cases ho
  refine w_leave_first K'.stack (funFrames_hide K'.frames hin) rfl (N _ (.head _)).1 (fun b o q => of_hideAll _ q) (hideAll_none _ (.head _)) hc hdd hd h1 fun h' k => ?_
  obtain ⟨_, _, fr⟩ := k.frames
  exact hQ h' ⟨_, st, sg, hl, k.stays, hideAll_none _ (.head _), fr, k.way⟩ ((Heap.UpToSlots.of_keeps F.keep).trans k.slots)
theorem out_next (K : Below A base outer g) (F : Fr g L g₂ m) (R : OutOf base g₂ (envOf name scope L a cd :: outer) e cls dd news s'.heap) (hsm : g₂.UpToSlots s'.heap)
    (hQ : ∀ h', OutOf base g outer e cls dd news h' → g.UpToSlots h' → Q () { s' with heap := h' }) :
    wpAny M (A.deeper (envOf name scope L a cd)) (leaving (envOf name scope L a cd) (.ref e)) Q E s' := by
  obtain ⟨B, hB, hBG, hl, f1, f2, f3, f4⟩ := R
  refine w_leave_next (Around.frames_deeper K.stack) f3 rfl f1 f2 f4 fun h' k => ?_
  obtain ⟨_, _, fr⟩ := k.frames
  exact hQ h' ⟨B, hB, fun b o q nm => hBG b o (F.keep b o q) (fun hm => by
    rcases kts_mem hm with z | z
    · rw [z, kts_self F] at q
      cases q
    · exact nm z), fun q hq => ⟨(hl q hq).1, kts_none F.keep (hl q hq).2.1, (hl q hq).2.2⟩, k.stays, f2, fr, k.way⟩ ((Heap.UpToSlots.of_keeps F.keep).trans (hsm.trans k.slots))
end
/-- C is an own exception class, one own class P above it -/
def ExcCls (h : Heap) (C P : Addr) : Prop := ∃ nm q N bs hdct sn sub ab col dd k0 k1 k2 k3 k5 newId, h.get? C = some (excClassObj nm q C N bs (excTail P) hdct sn sub ab col dd k0 k1 k2 k3 k5 newId)
section
variable {M : Model} {A : Around} {E : Value → Shared → Prop} {env : Env} {C P : Addr}
theorem x_raiseStmt {s : Shared} {x : Sem Value} {Q : Flow → Shared → Prop} (hh : A.handled = none)
    (h : wpAny M A x (fun v s₁ => ∃ e t d, v = .ref e ∧ ExcCls s₁.heap C P ∧ s₁.heap.get? e = some (excWith C t d) ∧ E (.ref e) s₁) E s) :
    wpAny M A (raiseStmt env (some x) none) Q E s := by
  unfold raiseStmt
  refine wpAny_bind (wpAny_mono h (fun v s₁ h₁ => ?_) fun _ _ x => x)
  obtain ⟨e, t, d, rfl, ⟨nm, q, N, bs, hdct, sn, sub, ab, col, dd, k0, k1, k2, k3, k5, newId, hC⟩, he, hE⟩ := h₁
  obtain ⟨hp, g, dr, tk, os⟩ := s₁
  repeat (first | with_reducible refine wpAny_loadPart_at he ?_ | with_reducible refine wpAny_loadPart_at hC ?_ | (with_reducible refine wpAny_isSubtype_exc hC ?_; rw [tail_Base]) | wp_step)
  exact wpAny_raiseNew_none hh hE
/-- v is an exception just made; E goes on with it -/
def Thrown (h₀ : Heap) (C : Addr) (E : Value → Shared → Prop) (v : Value) (s₁ : Shared) : Prop :=
  ∃ e t d L m news, v = .ref e ∧ Fr h₀ L s₁.heap m ∧ News h₀ L s₁.heap ((e, excWith C t d) :: news) ∧ E (.ref e) s₁
theorem x_raise {K : Frag} {h₀ : Heap} {nm q : Str} {N : Addr} {bs : List Value} {hdct : Bool} {sn : List Str} {sub : List Value} {ab : Bool} {col : Option Bool} {dd : Option Addr} {k0 k1 k2 k3 k5 : Option Value} {newId : String}
    {s : Shared} {x : PySem.Expr} {pos : Pos} {Q : Flow → Shared → Prop} (X : K.In h₀) (hC : K.lookup C = some (excClassObj nm q C N bs (excTail P) hdct sn sub ab col dd k0 k1 k2 k3 k5 newId)) (hh : A.handled = none)
    (h : wpAny M A (eval x env) (Thrown h₀ C E) E s) :
    wpAny M A (exec (.Raise (some x) none pos) env) Q E s := by
  rw [arm_exec_Raise]
  refine wpAny_bind (wpAny_standAt (x_raiseStmt (C := C) (P := P) hh ?_))
  refine wpAny_bind (wpAny_mono h (fun v s₃ h₃ => wpAny_bind (wpAny_standAt (wpAny_pure ?_))) fun _ _ x => x)
  obtain ⟨e, t, d, L, m, news, hv, F, NN, hE⟩ := h₃
  exact ⟨e, t, d, hv, ⟨nm, q, N, bs, hdct, sn, sub, ab, col, dd, k0, k1, k2, k3, k5, newId, (X.keeps F.keep) _ _ hC⟩, (NN _ (.head _)).1, hE⟩
end
end
section
/-- the dict of a PsError that tells v -/
abbrev toldEs (hs : Int) (u : Tok) (v : Value) : List DictEntry := [⟨hs, .str (Str.ofString "told") u, v⟩]
/-- the bytes that a PsError tells -/
def Tells (v told : Value) : Prop := v = told
/-- a call of f raises: the exception has left the frames of the call, and stands before the caller's frame; the ledger is news' with the exception's dict ahead -/
abbrev AmbR (lv : Nat) (w : World) (p : Program) (loose : List Str) (mean : ExcName → Option Value) (mg mb : Str → Option Value) (f : Addr) (args : List Value) (news : List (Addr × Obj)) (Tell : Value → List (Addr × Obj) → Prop) : Prop :=
  ∀ (dp un : Nat) (gd : Option (List Code)) (cn : Str) (cs : Scope) (a : Addr) (ccd : Value) (cl : List (Str × Addr)) (outer : List Env) (A₀ : Around) (base h₀ : Heap) (L : Addr) (m : Str → Option Value) (s : Shared) (Q E : Value → Shared → Prop),
    Below A₀ base outer h₀ → Fr h₀ L s.heap m → (Mine.hd.heap_1 w.params).In h₀ → News h₀ L s.heap news → Top p loose mean mg mb h₀ → cs.kind = .function → dp + 20 * lv < recursionLimit → un + 200 * lv < cLine →
    (∀ e dd hs u v news' h' tk' g, Fr h₀ L g m → OutOf base g (envOf cn cs L a ccd :: outer) e (.ref 45) dd ((dd, dictOf (toldEs hs u v) 1) :: news') h' → g.UpToSlots h' → Tell v news' → E (.ref e) { s with heap := h', toks := tk' }) →
    wpAny (model PySem.Challenge.rw_nt0483_01.row.prog w) (ktrTop dp un gd cn cs L a ccd cl outer) (call (.ref f) args) Q E s
theorem AmbR.use {lv : Nat} {w : World} {p : Program} {loose : List Str} {mean : ExcName → Option Value} {mg mb : Str → Option Value} {f : Addr} {args : List Value} {news : List (Addr × Obj)} {Tell : Value → List (Addr × Obj) → Prop} (C : AmbR lv w p loose mean mg mb f args news Tell)
    {dp un : Nat} {gd : Option (List Code)} {cn : Str} {cs : Scope} {a : Addr} {ccd : Value} {cl : List (Str × Addr)} {outer : List Env} {A₀ : Around} {base h₀ : Heap} {L : Addr} {m : Str → Option Value} {s : Shared} {Q E : Value → Shared → Prop}
    (B : Below A₀ base outer h₀) (F : Fr h₀ L s.heap m) (X : (Mine.hd.heap_1 w.params).In h₀) (N : News h₀ L s.heap news) (T : Top p loose mean mg mb h₀) (hk : cs.kind = .function) (hd : dp + 20 * lv < recursionLimit) (hu : un + 200 * lv < cLine)
    (k : ∀ e dd hs u v news' h' tk' g, Fr h₀ L g m → OutOf base g (envOf cn cs L a ccd :: outer) e (.ref 45) dd ((dd, dictOf (toldEs hs u v) 1) :: news') h' → g.UpToSlots h' → Tell v news' → E (.ref e) { s with heap := h', toks := tk' }) :
    wpAny (model PySem.Challenge.rw_nt0483_01.row.prog w) (ktrTop dp un gd cn cs L a ccd cl outer) (call (.ref f) args) Q E s := C _ _ _ _ _ _ _ _ _ _ _ _ _ _ _ _ _ B F X N T hk hd hu k
theorem OutOf.sub {base G h : Heap} {l : List Env} {e : Addr} {cls : Value} {dd : Addr} {news news' : List (Addr × Obj)} (R : OutOf base G l e cls dd news h) (hs : ∀ p ∈ news', p ∈ news) : OutOf base G l e cls dd news' h := by
  w_top off
  obtain ⟨B, a, b, c, d⟩ := R
  exact ⟨B, a, b, fun q hq => c q (hs q hq), d⟩
theorem OutOf.told {base G h : Heap} {l : List Env} {e t : Addr} {cls v : Value} {dd : Addr} {hs : Int} {u : Tok} {x : List Value} {news : List (Addr × Obj)} (R : OutOf base G l e cls dd ((dd, dictOf (toldEs hs u v) 1) :: (t, tupObj x) :: news) h) :
    OutOf base G l e cls dd ((dd, dictOf (toldEs hs u v) 1) :: news) h := R.sub fun p hp => by
  rcases List.mem_cons.mp hp with rfl | hp
  · exact .head _
  · exact .tail _ (.tail _ hp)
theorem OutOf.drop {base G h : Heap} {l : List Env} {e : Addr} {cls : Value} {dd : Addr} {q r : Addr × Obj} {news : List (Addr × Obj)} (R : OutOf base G l e cls dd (q :: r :: news) h) : OutOf base G l e cls dd (q :: news) h := R.sub fun p hp => by
  rcases List.mem_cons.mp hp with rfl | hp
  · exact .head _
  · exact .tail _ (.tail _ hp)
theorem said_M13_1 : True := by
  k_with "exec Raise some none" => (first | ((k_here; k_dflt (refine' x_raise (C := 45) (P := 32) ?zqX ?zqhC ?zqh ?_; (case zqX => k_asm); (case zqhC => k_is); (case zqh => first | rfl | assumption)); (try k_sweep))) | fail)
  k_with "call ref" => (first | ((k_here; (with_reducible show wpAny _ _ (call (Value.ref 45) [_]) _ _ _); k_dflt (refine' x_make (C := 45) (P := 32) ?zqF ?zqN ?zqX ?zqhC ?zqhi ?zqhf ?zqhr ?_; (case zqF => k_asm); (case zqN => k_asm); (case zqX => k_asm); (case zqhC => k_is); (case zqhi => k_is); (case zqhf => k_is); (case zqhr => simp)); intro zqe' zqt' zqh' zqF' zqN' zql1; (have zql2' := zql1); (try k_lt zql1); (try k_sweep))) | fail)
  k_with "setAttr ref" => (first | ((k_here; k_dflt (refine' x_store (C := 45) (P := 32) ?zqF ?zqN ?zqX ?zqhC ?zqhs ?zqhn ?zqhne ?zqhput ?_; (case zqF => k_asm); (case zqN => k_asm); (case zqX => k_asm); (case zqhC => k_is); (case zqhs => k_is); (case zqhn => k_is); (case zqhne => k_all); (case zqhput => rfl)); intro zqd' zqh' zqF' zqN' zql1; (try k_sweep))) | fail)
  k_with "leaving ref" => (first | ((k_here; k_dflt (refine' out_first (oe := excWith _ _ _) ?zqB ?zqF ?zqN ?zqhne ?zqc ?zqd ?zqf ?zqg ?_ ?zqk; (case zqB => assumption); (case zqF => assumption); (case zqN => assumption); (case zqhne => k_all); (case zqc => rfl); (case zqd => rfl); (case zqf => rfl); (case zqg => rfl); (case zqk => first | rfl | assumption)); intro zqh' zqR' zqU')) | fail)
  trivial
set_option maxRecDepth 100000 in
set_option maxHeartbeats 8000000 in
theorem push_raises (w : World) (p : Program) (loose : List Str) (mean : ExcName → Option Value) (mg mb : Str → Option Value)
    {h1 h2 : Int} {t1 t2 t3 : Tok} {most : Int} {ia idd tl : Addr} {ts : List Value} {n : Nat} {rest : List (Addr × Obj)} {v : Value}
    (ap : StackApart ia idd tl rest) (hl : (ts.length : Int) ≥ most) (hm : ts.length ≤ 100) :
    AmbR 1 w p loose mean mg mb 76 [.ref ia, v] (stackLed h1 h2 t1 t2 t3 most ia idd tl ts n rest)
      (fun v news' => (∃ u, v = .bytes #[115, 116, 97, 99, 107, 111, 118, 101, 114, 102, 108, 111, 119] u) ∧ news' = stackLed h1 h2 t1 t2 t3 most ia idd tl ts n rest) := by
  unfold AmbR
  k_fill
  intro dp un gd cn cs a ccd cl outer A₀ base h₀ L m s Q E B F X N T hk hd hu hret
  obtain ⟨a1, a2, a3, r1, r2, r3⟩ := ap
  unfold stackLed stackEs at *
  refine wpAny_call ?_
  k_dflt cell_enter
  k_steps
  refine ⟨_, _, _, _, _, _, rfl, by assumption, by assumption, ?_⟩
  k_steps
  · rename OutOf _ _ _ _ _ _ _ _ => R'
    exact hret _ _ _ _ _ _ _ _ _ (by assumption) (OutOf.told R') (by assumption) ⟨⟨_, rfl⟩, rfl⟩
/-- the bytes that the errors tell -/
abbrev bOver : Array UInt8 := #[115, 116, 97, 99, 107, 111, 118, 101, 114, 102, 108, 111, 119]
abbrev bUnder : Array UInt8 := #[115, 116, 97, 99, 107, 117, 110, 100, 101, 114, 102, 108, 111, 119]
abbrev bRange : Array UInt8 := #[114, 97, 110, 103, 101, 99, 104, 101, 99, 107]
abbrev bMark : Array UInt8 := #[117, 110, 109, 97, 116, 99, 104, 101, 100, 109, 97, 114, 107]
set_option maxRecDepth 100000 in
set_option maxHeartbeats 8000000 in
theorem pop_raises (w : World) (p : Program) (loose : List Str) (mean : ExcName → Option Value) (mg mb : Str → Option Value)
    {h1 h2 : Int} {t1 t2 t3 : Tok} {most : Int} {ia idd tl : Addr} {n : Nat} {rest : List (Addr × Obj)}
    (ap : StackApart ia idd tl rest) :
    AmbR 1 w p loose mean mg mb 90 [.ref ia] (stackLed h1 h2 t1 t2 t3 most ia idd tl [] n rest)
      (fun v news' => (∃ u, v = .bytes bUnder u) ∧ news' = stackLed h1 h2 t1 t2 t3 most ia idd tl [] n rest) := by
  unfold AmbR
  k_fill
  intro dp un gd cn cs a ccd cl outer A₀ base h₀ L m s Q E B F X N T hk hd hu hret
  obtain ⟨a1, a2, a3, r1, r2, r3⟩ := ap
  unfold stackLed stackEs at *
  refine wpAny_call ?_
  k_dflt cell_enter
  k_steps
  refine ⟨_, _, _, _, _, _, rfl, by assumption, by assumption, ?_⟩
  k_steps
  · rename OutOf _ _ _ _ _ _ _ _ => R'
    exact hret _ _ _ _ _ _ _ _ _ (by assumption) (OutOf.drop (OutOf.told R')) (by assumption) ⟨⟨_, rfl⟩, rfl⟩
set_option maxRecDepth 100000 in
set_option maxHeartbeats 8000000 in
theorem pushAll_raises (w : World) (p : Program) (loose : List Str) (mean : ExcName → Option Value) (mg mb : Str → Option Value)
    {h1 h2 : Int} {t1 t2 t3 : Tok} {most : Int} {ia idd tl D : Addr} {ts vs : List Value} {n nd : Nat} {rest : List (Addr × Obj)}
    (ap : StackApart ia idd tl rest) (hD : (D, W.listOf vs.toArray nd) ∈ rest) (hl : (ts.length : Int) + vs.length > most) (hm : ts.length ≤ 100) (hv : vs.length ≤ 100) :
    AmbR 1 w p loose mean mg mb 83 [.ref ia, .ref D] (stackLed h1 h2 t1 t2 t3 most ia idd tl ts n rest)
      (fun v news' => (∃ u, v = .bytes bOver u) ∧ news' = stackLed h1 h2 t1 t2 t3 most ia idd tl ts n rest) := by
  unfold AmbR
  k_fill
  intro dp un gd cn cs a ccd cl outer A₀ base h₀ L m s Q E B F X N T hk hd hu hret
  obtain ⟨a1, a2, a3, r1, r2, r3⟩ := ap
  unfold stackLed stackEs at *
  have hD' : (D, W.listOf vs.toArray nd) ∈ (ia, instObj 149 idd) :: (idd, dictOf [⟨h1, .str (Str.ofString "most") t1, .int most t2⟩, ⟨h2, .str (Str.ofString "things") t3, .ref tl⟩] 2) :: (tl, W.listOf ts.toArray n) :: rest := .tail _ (.tail _ (.tail _ hD))
  refine wpAny_call ?_
  k_dflt cell_enter
  k_steps
  refine ⟨_, _, _, _, _, _, rfl, by assumption, by assumption, ?_⟩
  k_steps
  · rename OutOf _ _ _ _ _ _ _ _ => R'
    exact hret _ _ _ _ _ _ _ _ _ (by assumption) (OutOf.told R') (by assumption) ⟨⟨_, rfl⟩, rfl⟩
set_option maxRecDepth 100000 in
set_option maxHeartbeats 8000000 in
theorem at_range (w : World) (p : Program) (loose : List Str) (mean : ExcName → Option Value) (mg mb : Str → Option Value)
    {h1 h2 : Int} {t1 t2 t3 : Tok} {most : Int} {ia idd tl : Addr} {ts : List Value} {n : Nat} {rest : List (Addr × Obj)} {k : Int} {t : Tok}
    (ap : StackApart ia idd tl rest) (hk0 : k < 0) :
    AmbR 1 w p loose mean mg mb 97 [.ref ia, .int k t] (stackLed h1 h2 t1 t2 t3 most ia idd tl ts n rest)
      (fun v news' => (∃ u, v = .bytes bRange u) ∧ news' = stackLed h1 h2 t1 t2 t3 most ia idd tl ts n rest) := by
  unfold AmbR
  k_fill
  intro dp un gd cn cs a ccd cl outer A₀ base h₀ L m s Q E B F X N T hk hd hu hret
  obtain ⟨a1, a2, a3, r1, r2, r3⟩ := ap
  unfold stackLed stackEs at *
  refine wpAny_call ?_
  k_dflt cell_enter
  k_steps
  refine ⟨_, _, _, _, _, _, rfl, by assumption, by assumption, ?_⟩
  k_steps
  · rename OutOf _ _ _ _ _ _ _ _ => R'
    exact hret _ _ _ _ _ _ _ _ _ (by assumption) (OutOf.told R') (by assumption) ⟨⟨_, rfl⟩, rfl⟩
set_option maxRecDepth 100000 in
set_option maxHeartbeats 8000000 in
theorem at_under (w : World) (p : Program) (loose : List Str) (mean : ExcName → Option Value) (mg mb : Str → Option Value)
    {h1 h2 : Int} {t1 t2 t3 : Tok} {most : Int} {ia idd tl : Addr} {ts : List Value} {n : Nat} {rest : List (Addr × Obj)} {k : Int} {t : Tok}
    (ap : StackApart ia idd tl rest) (hl : ts.length ≤ 100) (hk0 : 0 ≤ k) (hk1 : k ≥ ts.length) :
    AmbR 1 w p loose mean mg mb 97 [.ref ia, .int k t] (stackLed h1 h2 t1 t2 t3 most ia idd tl ts n rest)
      (fun v news' => (∃ u, v = .bytes bUnder u) ∧ news' = stackLed h1 h2 t1 t2 t3 most ia idd tl ts n rest) := by
  unfold AmbR
  k_fill
  intro dp un gd cn cs a ccd cl outer A₀ base h₀ L m s Q E B F X N T hk hd hu hret
  obtain ⟨a1, a2, a3, r1, r2, r3⟩ := ap
  unfold stackLed stackEs at *
  refine wpAny_call ?_
  k_dflt cell_enter
  k_steps
  refine ⟨_, _, _, _, _, _, rfl, by assumption, by assumption, ?_⟩
  k_steps
  · rename OutOf _ _ _ _ _ _ _ _ => R'
    exact hret _ _ _ _ _ _ _ _ _ (by assumption) (OutOf.told R') (by assumption) ⟨⟨_, rfl⟩, rfl⟩
set_option maxRecDepth 100000 in
set_option maxHeartbeats 8000000 in
theorem top_range (w : World) (p : Program) (loose : List Str) (mean : ExcName → Option Value) (mg mb : Str → Option Value)
    {h1 h2 : Int} {t1 t2 t3 : Tok} {most : Int} {ia idd tl : Addr} {ts : List Value} {n : Nat} {rest : List (Addr × Obj)} {k : Int} {t : Tok}
    (ap : StackApart ia idd tl rest) (hk0 : k < 0) :
    AmbR 1 w p loose mean mg mb 104 [.ref ia, .int k t] (stackLed h1 h2 t1 t2 t3 most ia idd tl ts n rest)
      (fun v news' => (∃ u, v = .bytes bRange u) ∧ news' = stackLed h1 h2 t1 t2 t3 most ia idd tl ts n rest) := by
  unfold AmbR
  k_fill
  intro dp un gd cn cs a ccd cl outer A₀ base h₀ L m s Q E B F X N T hk hd hu hret
  obtain ⟨a1, a2, a3, r1, r2, r3⟩ := ap
  unfold stackLed stackEs at *
  refine wpAny_call ?_
  k_dflt cell_enter
  k_steps
  refine ⟨_, _, _, _, _, _, rfl, by assumption, by assumption, ?_⟩
  k_steps
  · rename OutOf _ _ _ _ _ _ _ _ => R'
    exact hret _ _ _ _ _ _ _ _ _ (by assumption) (OutOf.told R') (by assumption) ⟨⟨_, rfl⟩, rfl⟩
set_option maxRecDepth 100000 in
set_option maxHeartbeats 8000000 in
theorem top_under (w : World) (p : Program) (loose : List Str) (mean : ExcName → Option Value) (mg mb : Str → Option Value)
    {h1 h2 : Int} {t1 t2 t3 : Tok} {most : Int} {ia idd tl : Addr} {ts : List Value} {n : Nat} {rest : List (Addr × Obj)} {k : Int} {t : Tok}
    (ap : StackApart ia idd tl rest) (hl : ts.length ≤ 100) (hk0 : 0 ≤ k) (hk1 : k > ts.length) :
    AmbR 1 w p loose mean mg mb 104 [.ref ia, .int k t] (stackLed h1 h2 t1 t2 t3 most ia idd tl ts n rest)
      (fun v news' => (∃ u, v = .bytes bUnder u) ∧ news' = stackLed h1 h2 t1 t2 t3 most ia idd tl ts n rest) := by
  unfold AmbR
  k_fill
  intro dp un gd cn cs a ccd cl outer A₀ base h₀ L m s Q E B F X N T hk hd hu hret
  obtain ⟨a1, a2, a3, r1, r2, r3⟩ := ap
  unfold stackLed stackEs at *
  refine wpAny_call ?_
  k_dflt cell_enter
  k_steps
  refine ⟨_, _, _, _, _, _, rfl, by assumption, by assumption, ?_⟩
  k_steps
  · rename OutOf _ _ _ _ _ _ _ _ => R'
    exact hret _ _ _ _ _ _ _ _ _ (by assumption) (OutOf.told R') (by assumption) ⟨⟨_, rfl⟩, rfl⟩
end
section
theorem said_M14_1 : True := by
  k_with "subscriptTail" => (first | ((k_here; (with_reducible show wpAny _ _ (subscriptTail _ _ (Value.ref _) (Value.int _ _)) _ _ _); k_dflt (refine m_item (by k_asm) (by k_mem) (by omega) (by assumption) (by lcg_off) ?_ (by with_unfolding_all rfl) (by kmk_pure)))) | fail)
  trivial
set_option maxRecDepth 100000 in
set_option maxHeartbeats 8000000 in
theorem toMark_raises (w : World) (p : Program) (loose : List Str) (mean : ExcName → Option Value) (mg mb : Str → Option Value)
    {h1 h2 : Int} {t1 t2 t3 : Tok} {most : Int} {ia idd tl : Addr} {ts : List Value} {ns : List Int} {n : Nat} {rest : List (Addr × Obj)}
    (ap : StackApart ia idd tl rest) (hT : ThingsAre rest ts ns) (hl : ts.length < 100) (hnz : ∀ j : Nat, ns[j]? ≠ some 0) :
    AmbR 1 w p loose mean mg mb 132 [.ref ia] (stackLed h1 h2 t1 t2 t3 most ia idd tl ts n rest)
      (fun v news' => (∃ u, v = .bytes bMark u) ∧ news' = stackLed h1 h2 t1 t2 t3 most ia idd tl ts n rest) := by
  w_top off
  unfold AmbR
  k_fill
  intro dp un gd cn cs a ccd cl outer A₀ base h₀ L m s Q E B F X N T hk hd hu hret
  obtain ⟨a1, a2, a3, r1, r2, r3⟩ := ap
  unfold stackLed stackEs at *
  refine wpAny_call ?_
  k_dflt cell_enter
  repeat' (first | ((fail_if_success (with_reducible show wpAny _ _ (PySem.pyIter _) _ _ _)); first | (k_unfold; (try dsimp only)) | (k_end; wrow_close) | walk1 | (dsimp only; walk1) | (refine Sealed.use (by with_reducible assumption) ?_; (try dsimp only))))
  rename IsRange _ _ _ _ _ _ _ _ => R
  rename Fr _ _ _ _ => F1
  rename News _ _ _ _ => N1
  refine m_range (fun i m nx => (∀ z, z ≠ Str.ofString "depth" → m z = (fun y => List.lookup y [(Str.ofString "self", Value.ref ia)]) z) ∧ nx = stackLed h1 h2 t1 t2 t3 most ia idd tl ts n rest) (by rfl) R rfl (by omega) F1 N1 ⟨fun z _ => rfl, rfl⟩ ?_ ?_
  · rintro i t m₁ nx hh tk' I oI hi ⟨hm, rfl⟩ hoff F2 N2
    rw [map_none hm] at F2
    have hi2 : ts.length - 1 - i < ts.length := by omega
    have e1 : ((ts.length : Int) - 1 - (i : Int)).toNat = ts.length - 1 - i := by omega
    have hv : ts[((ts.length : Int) - 1 - (i : Int)).toNat]? = some ts[ts.length - 1 - i] := by rw [e1]; simp [hi2]
    obtain ⟨k, hk1, x, dd, es, nn, hx0, hx, hdx, he⟩ := hT.at (ts.length - 1 - i) _ (by rw [← e1]; exact hv)
    rw [hx0] at hv
    cases he with
    | mark => exact absurd hk1 (hnz _)
    | int _ hk0 =>
      k_steps
      exact ⟨_, _, _, _, rfl, by k_asm, by k_asm, hoff, fun z hz => if_neg hz, rfl⟩
  · rintro m₁ nx hh tk' ⟨hm, rfl⟩
    intro F2 N2
    unfold stackLed stackEs at *
    dsimp only
    k_steps
    refine ⟨_, _, _, _, _, _, rfl, by assumption, by assumption, ?_⟩
    k_steps
    · rename OutOf _ _ _ _ _ _ _ _ => R'
      exact hret _ _ _ _ _ _ _ _ _ (by assumption) (OutOf.told R') (by assumption) ⟨⟨_, rfl⟩, rfl⟩
end
section
theorem said_M15_1 : True := by
  k_with "call ref" => (first | ((k_here; (with_reducible show wpAny _ _ (call (Value.ref 104) [Value.ref _, Value.int _ _]) _ _ _); k_dflt (refine' AmbR.use (top_range _ _ _ _ _ _ ?zqap ?zqh0) ?zqB ?zqF ?zqX (news_stack ?zqN ?zqe1 ?zqe2 ?zqe3) ?zqT ?zqhk ?zqhd ?zqhu ?_; walk_at "sd ae"; walk_at "sd t"; walk_at "sd p"; (case zqh0 => omega)); rintro zqe' zqdd' zqhs' zqu' zqv' zqnews' zqh' zqtk' zqg' zqFG' zqR' zqU' ⟨zqt1', zqt2'⟩; subst zqt2')) | fail)
  k_with "call ref" => (first | ((k_here; (with_reducible show wpAny _ _ (call (Value.ref 104) [Value.ref _, Value.int _ _]) _ _ _); k_dflt (refine' AmbR.use (top_under _ _ _ _ _ _ ?zqap ?zqhl ?zqh0 ?zqh1) ?zqB ?zqF ?zqX (news_stack ?zqN ?zqe1 ?zqe2 ?zqe3) ?zqT ?zqhk ?zqhd ?zqhu ?_; walk_at "sd ae"; walk_at "sd t"; walk_at "sd p"; walk_at "sd h"); rintro zqe' zqdd' zqhs' zqu' zqv' zqnews' zqh' zqtk' zqg' zqFG' zqR' zqU' ⟨zqt1', zqt2'⟩; subst zqt2')) | fail)
  k_with "leaving ref" => (first | ((k_here; k_dflt (refine' out_next ?zqB ?zqF ?zqR ?zqU ?_; (case zqB => assumption); (case zqF => assumption); (case zqR => assumption); (case zqU => assumption)); intro zqh' zqR' zqU')) | fail)
  trivial
set_option maxRecDepth 100000 in
set_option maxHeartbeats 8000000 in
theorem take_range (w : World) (p : Program) (loose : List Str) (mean : ExcName → Option Value) (mg mb : Str → Option Value)
    {h1 h2 : Int} {t1 t2 t3 : Tok} {most : Int} {ia idd tl : Addr} {ts : List Value} {n : Nat} {rest : List (Addr × Obj)} {k : Int} {t : Tok}
    (ap : StackApart ia idd tl rest) (hk0 : k < 0) :
    AmbR 2 w p loose mean mg mb 111 [.ref ia, .int k t] (stackLed h1 h2 t1 t2 t3 most ia idd tl ts n rest)
      (fun v news' => (∃ u, v = .bytes bRange u) ∧ news' = stackLed h1 h2 t1 t2 t3 most ia idd tl ts n rest) := by
  w_top off
  unfold AmbR
  k_fill
  intro dp un gd cn cs a ccd cl outer A₀ base h₀ L m s Q E B F X N T hk hd hu hret
  obtain ⟨a1, a2, a3, r1, r2, r3⟩ := ap
  unfold stackLed stackEs at *
  refine wpAny_call ?_
  k_dflt cell_enter
  k_steps
  rename OutOf _ _ (envOf cn cs _ _ _ :: _) _ _ _ _ _ => R'
  exact hret _ _ _ _ _ _ _ _ _ (by assumption) R' (by assumption) ⟨by assumption, rfl⟩
set_option maxRecDepth 100000 in
set_option maxHeartbeats 8000000 in
theorem take_under (w : World) (p : Program) (loose : List Str) (mean : ExcName → Option Value) (mg mb : Str → Option Value)
    {h1 h2 : Int} {t1 t2 t3 : Tok} {most : Int} {ia idd tl : Addr} {ts : List Value} {n : Nat} {rest : List (Addr × Obj)} {k : Int} {t : Tok}
    (ap : StackApart ia idd tl rest) (hl : ts.length ≤ 100) (hk0 : 0 ≤ k) (hk1 : k > ts.length) :
    AmbR 2 w p loose mean mg mb 111 [.ref ia, .int k t] (stackLed h1 h2 t1 t2 t3 most ia idd tl ts n rest)
      (fun v news' => (∃ u, v = .bytes bUnder u) ∧ news' = stackLed h1 h2 t1 t2 t3 most ia idd tl ts n rest) := by
  unfold AmbR
  k_fill
  intro dp un gd cn cs a ccd cl outer A₀ base h₀ L m s Q E B F X N T hk hd hu hret
  obtain ⟨a1, a2, a3, r1, r2, r3⟩ := ap
  unfold stackLed stackEs at *
  refine wpAny_call ?_
  k_dflt cell_enter
  k_steps
  rename OutOf _ _ (envOf cn cs _ _ _ :: _) _ _ _ _ _ => R'
  exact hret _ _ _ _ _ _ _ _ _ (by assumption) R' (by assumption) ⟨by assumption, rfl⟩
set_option maxRecDepth 100000 in
set_option maxHeartbeats 8000000 in
theorem rolled_range (w : World) (p : Program) (loose : List Str) (mean : ExcName → Option Value) (mg mb : Str → Option Value)
    {h1 h2 : Int} {t1 t2 t3 : Tok} {most : Int} {ia idd tl : Addr} {ts : List Value} {n : Nat} {rest : List (Addr × Obj)} {k : Int} {t : Tok} {by_ : Int} {tb : Tok}
    (ap : StackApart ia idd tl rest) (hk0 : k < 0) :
    AmbR 2 w p loose mean mg mb 125 [.ref ia, .int k t, .int by_ tb] (stackLed h1 h2 t1 t2 t3 most ia idd tl ts n rest)
      (fun v news' => (∃ u, v = .bytes bRange u) ∧ news' = stackLed h1 h2 t1 t2 t3 most ia idd tl ts n rest) := by
  unfold AmbR
  k_fill
  intro dp un gd cn cs a ccd cl outer A₀ base h₀ L m s Q E B F X N T hk hd hu hret
  obtain ⟨a1, a2, a3, r1, r2, r3⟩ := ap
  unfold stackLed stackEs at *
  refine wpAny_call ?_
  k_dflt cell_enter
  k_steps
  rename OutOf _ _ (envOf cn cs _ _ _ :: _) _ _ _ _ _ => R'
  exact hret _ _ _ _ _ _ _ _ _ (by assumption) R' (by assumption) ⟨by assumption, rfl⟩
set_option maxRecDepth 100000 in
set_option maxHeartbeats 8000000 in
theorem rolled_under (w : World) (p : Program) (loose : List Str) (mean : ExcName → Option Value) (mg mb : Str → Option Value)
    {h1 h2 : Int} {t1 t2 t3 : Tok} {most : Int} {ia idd tl : Addr} {ts : List Value} {n : Nat} {rest : List (Addr × Obj)} {k : Int} {t : Tok} {by_ : Int} {tb : Tok}
    (ap : StackApart ia idd tl rest) (hl : ts.length ≤ 100) (hk0 : 0 ≤ k) (hk1 : k > ts.length) :
    AmbR 2 w p loose mean mg mb 125 [.ref ia, .int k t, .int by_ tb] (stackLed h1 h2 t1 t2 t3 most ia idd tl ts n rest)
      (fun v news' => (∃ u, v = .bytes bUnder u) ∧ news' = stackLed h1 h2 t1 t2 t3 most ia idd tl ts n rest) := by
  unfold AmbR
  k_fill
  intro dp un gd cn cs a ccd cl outer A₀ base h₀ L m s Q E B F X N T hk hd hu hret
  obtain ⟨a1, a2, a3, r1, r2, r3⟩ := ap
  unfold stackLed stackEs at *
  refine wpAny_call ?_
  k_dflt cell_enter
  k_steps
  rename OutOf _ _ (envOf cn cs _ _ _ :: _) _ _ _ _ _ => R'
  exact hret _ _ _ _ _ _ _ _ _ (by assumption) R' (by assumption) ⟨by assumption, rfl⟩
end
section
open Builtin Builtin.ObjectAttr
set_option maxRecDepth 100000
set_option maxHeartbeats 4000000
section
variable {prog : Program} {w : World} {A : Around} {E : Value → Shared → Prop} {s : Shared} {h₀ : Heap} {L C e dd : Addr} {m : Str → Option Value} {news : List (Addr × Obj)} {K : Frag}
theorem x_get {oe : Obj} {vs : Array Value} {es : List DictEntry} {n : Nat} {name : Str} {v : Value} {expr : Bool} {Q : Value → Shared → Prop} (F : Fr h₀ L s.heap m) (NN : News h₀ L s.heap news) (X₀ : K.In h₀)
    (he : (e, oe) ∈ news) (hc : oe.cls = .ref C) (hdi : oe.dict = some dd) (hda : oe.data = .fields vs) (hdd : (dd, dictOf es n) ∈ news)
    (hga : findIn K (.ref C) "__getattribute__" = some (some (.builtin "BaseException.__getattribute__"))) (hk : findIn K (.ref C) "__getattr__" = some none) (hn : findIn K (.ref C) name = some none)
    (hh : hasDictIn K C = true) (hb : mroIn K C (.type "BaseException") = some true) (hl : getL name es = some (some v)) (hv : handedIn v = true) (h : Q v { s with toks := s.toks + 1 }) :
    wpAny (model prog w) A (getAttr (.ref e) name expr) Q E s := by
  w_top off
  have X := X₀.keeps F.keep
  have ge := (NN _ he).1
  have gd := (NN _ hdd).1
  have I : PySem.W.InstAt s.heap e oe C (some (dictOf es n)) := ⟨ge, hc, by unfold notCls; rw [hda], by rw [hdi]; exact gd⟩
  have FB := PySem.F.attrBase_Exception
  obtain ⟨hp, g, d, t, os⟩ := s
  have L0 := I.type (M := model prog w)
  have L1 := looks_findIn (M := model prog w) X hga
  have hx2 : (Value.builtin "BaseException.__getattribute__" == Value.builtin "object.__getattribute__") = false := by decide +kernel
  unfold getAttr getAttrBy
  refine wpAny_bind (wpAny_mkText (wpAny_holding (wpAny_bind (L0.at (wpAny_bind (L1.at ?_))))))
  dsimp only
  rw [hx2, Bool.and_false, if_neg (by decide)]
  unfold getAttrByItsOwn
  refine wpAny_bind ((looks_hook (mc := .ref C) X (r := none) hk).at (wpAny_bind (wpAny_attempt (wpAny_holding ?_))))
  unfold callGetattribute
  rw [show (expr && onTheHeap (Value.builtin "BaseException.__getattribute__")) = false from by cases expr <;> rfl, if_neg (by decide)]
  unfold boundAndCalled
  rw [FB.ga.bind]
  refine wpAny_bind (wpAny_pure ?_)
  show wpAny _ _ (call (.builtin "BaseException.__getattribute__") [.ref e, .str name t]) _ _ _
  refine wpAny_call ?_
  refine codeAny_call_builtin FB.ga.plain PySem.F.entry_bexc_ga ?_
  refine @check_slot (model prog w) _ _ _ "BaseException.__getattribute__" "BaseException" "__getattribute__" (.ref e) [.str name t] [] _ (by decide +kernel) (by decide +kernel) (L0.andThen (looks_mroIn X hb)) (PySem.F.args_bexc_ga (.ref e) (.str name t)) ?_
  have LF := looks_find (M := model prog w) X I (findObj_own hh hn rfl hl)
  refine wpAny_bind (wpAny_pure (wpAny_bind (wpAny_pure (wpAny_bind (L0.at (wpAny_bind (LF.at ?_)))))))
  refine wpAny_pure ?_
  show wpAny _ _ (handedOut v) _ _ _
  rw [handedOut_of hv]; exact wpAny_pure h
end
/-- a frame is left whose callers' frames may have been touched (their slots): everything as before, on a turned base -/
def LeaveT (fs fo : List Addr) (A₀ : Around) (base : Heap) (outer : List Env) (h₀ : Heap) (L : Addr) (m : Str → Option Value) (g : Heap) (R : Result → Shared → Prop) (v : Value) (s' : Shared) : Prop :=
  ∃ g' L' m' news', KtsTurn fs g g' ∧ Fr g' L' s'.heap m' ∧ News g' L' s'.heap news' ∧
    ∀ h₀', KtsTurn fo h₀ h₀' → Below A₀ base outer h₀' → Fr h₀' L s'.heap m → News h₀' L s'.heap news' → R (.ok (.ret v)) s'
section
variable {prog : Program} {w : World} {A₀ A : Around} {s : Shared} {base h₀ : Heap} {outer : List Env} {L : Addr} {m : Str → Option Value} {env : Env} {news : List (Addr × Obj)} {K : Frag} {R : Result → Shared → Prop}
theorem frame_mem {b : Addr} (hf : env.frame = some L) (h : b ∈ (env :: outer).filterMap (·.frame)) : b = L ∨ b ∈ outer.filterMap (·.frame) := by
  obtain ⟨env', he, hf'⟩ := List.mem_filterMap.mp h
  rcases List.mem_cons.mp he with rfl | he
  · exact .inl (Option.some.inj (hf'.symm.trans hf))
  · exact .inr (List.mem_filterMap.mpr ⟨env', he, hf'⟩)
theorem below_turn {h₀' : Heap} (B : Below A₀ base outer h₀) (T : KtsTurn (outer.filterMap (·.frame)) h₀ h₀') : Below A₀ base outer h₀' :=
  ⟨B.stack, fun b o e => T.other b o (B.stays b o e) (fun hm => by rw [(B.frames.mem hm).1] at e; cases e), B.frames.of_keeps fun b o e _ => by
    obtain ⟨sl, hs⟩ := T.up e
    exact ⟨_, hs, rfl⟩⟩
theorem groundT (B : Below A₀ base outer h₀) (F : Fr h₀ L s.heap m) (N : News h₀ L s.heap news) (hA : A.frames = some (env :: outer)) (hf : env.frame = some L) (hke : env.scope.kind = .function) :
    Fr h₀ L (hideAll s.heap (news.map (·.1))) m ∧ Below A base (env :: outer) (hideAll s.heap (news.map (·.1))) ∧ h₀.StaysIn (hideAll s.heap (news.map (·.1))) ∧
      ∀ v s', LeaveT ((env :: outer).filterMap (·.frame)) (outer.filterMap (·.frame)) A₀ base outer h₀ L m (hideAll s.heap (news.map (·.1))) R v s' → R (.ok (.ret v)) s' := by
  obtain ⟨FG, BG, st, _⟩ := groundX (R := R) B F N hA hf hke
  refine ⟨FG, BG, st, fun v s' hl => ?_⟩
  obtain ⟨g', L', m', news', T', F', N', k⟩ := hl
  have nL₀ : h₀.get? L = none := kts_self F
  obtain ⟨oL, es, ep, hLg, hLd, hLk, hLf⟩ := FG.ns
  obtain ⟨sl, hs⟩ := T'.up hLg
  obtain ⟨T₁, S₁⟩ := kts_turn_at (h := s'.heap) (fs := outer.filterMap (·.frame)) (g := h₀)
    (fun b hb => by
      obtain ⟨_, o, ho', _⟩ := B.frames.mem hb
      exact ⟨o, ho'⟩)
    (fun b o e nmem => F'.keep b o (T'.other b o (st b o e) (fun q => by
      rcases frame_mem hf q with z | z
      · rw [z, nL₀] at e
        cases e
      · exact nmem z)))
    (fun b o e hm => by
      obtain ⟨sl', hs'⟩ := T'.up (st b o e)
      exact ⟨sl', F'.keep _ _ hs'⟩)
  refine k _ T₁ (below_turn B T₁) ⟨⟨_, es, ep, F'.keep _ _ hs, hLd, hLk, hLf⟩, S₁, by rw [T₁.size]; exact F.above⟩ fun p hp => ⟨(N' p hp).1, fun q => ?_, ?_⟩
  · have := (N' p hp).2.2; rw [q, hs] at this; cases this
  · refine T₁.none_ _ ?_
    cases q : h₀.get? p.1 with
    | none => rfl
    | some o =>
      obtain ⟨sl', hs'⟩ := T'.up (st _ _ q)
      have := (N' p hp).2.2
      rw [hs'] at this
      cases this
variable {name qual : Str} {params : Arguments} {body : List Stmt} {scope : Scope} {dV kV doc pm cdv ct oc : Value} {an od : Option Addr} {osl : Array (Option Value)} {f : Addr} {args : Args} {binds : List (Str × Value)}
  {p : Program} {loose : List Str} {mean : ExcName → Option Value} {mg mb : Str → Option Value}
theorem code_defT (B : Below A₀ base outer h₀) (F : Fr h₀ L s.heap m) (X₀ : K.In h₀) (N : News h₀ L s.heap news) (T : Top p loose mean mg mb h₀) (hA : A.frames = some (env :: outer)) (hf : env.frame = some L) (hke : env.scope.kind = .function)
    (ho : K.lookup f = some ⟨oc, od, .func (fnOf name qual params body scope dV kV doc pm an cdv ct), osl⟩) (hcd : codeIn K cdv qual = true) (hroom : A.depth < recursionLimit)
    (hbind : BindsTo s (fnOf name qual params body scope dV kV doc pm an cdv ct) args binds) (hloc : ∀ y ∈ binds, scope.names.lookup y.1 = some .local)
    (h : ∀ g L' h₁, Fr h₀ L g m → Fr g L' h₁ (fun y => binds.reverse.lookup y) → News g L' h₁ news → Below A base (env :: outer) g → K.In g → Top p loose mean mg mb g →
      wpAny (model prog w) (A.deeper (envOf qual scope L' f cdv)) (execs body (envOf qual scope L' f cdv))
        (fun fl s' => LeaveT ((env :: outer).filterMap (·.frame)) (outer.filterMap (·.frame)) A₀ base outer h₀ L m g R (match fl with | .ret v => v | _ => .none) s')
        (fun e s' => wpAny (model prog w) (A.deeper (envOf qual scope L' f cdv)) (leaving (envOf qual scope L' f cdv) e) (fun _ s'' => R (.error e) s'') (fun e' s'' => R (.error e') s'') s')
        { s with heap := h₁, toks := s.toks + binds.length })
    (hco : scope.isCoroutine = false) (hgen : scope.isGenerator = false) (hk : scope.kind = .function) (hcell : ∀ x ∈ scope.names, x.2 ≠ .cell) : codeAny (model prog w) A (.call (.ref f) args) R s := by
  obtain ⟨FG, BG, st, lv⟩ := groundT (R := R) B F N hA hf hke
  refine codeAny_call_def (fd := fnOf name qual params body scope dV kV doc pm an cdv ct) (body := body) (binds := binds) hroom ((X₀.keeps F.keep) _ _ ho) rfl (T.nolimit.keeps F.keep) (codeRec_of (X₀.keeps F.keep) hcd) rfl hbind hcell hloc (fun h₁ hns hk₁ => ?_) hco hgen hk
  exact wpAny_mono (h _ s.heap.objs.size h₁ FG ⟨hns, fun b o e => hk₁ b o (of_hideAll _ e), Nat.le_of_eq (hideAll_size _ _)⟩
    (fun p hp => ⟨hk₁ _ _ (N p hp).1, Nat.ne_of_lt (Heap.lt_size (N p hp).1), hideAll_none _ (List.mem_map_of_mem hp)⟩) BG (X₀.keeps st) (T.keeps st)) (fun fl s' hl => lv _ _ hl) fun _ _ y => y
theorem code_cellsT (B : Below A₀ base outer h₀) (F : Fr h₀ L s.heap m) (X₀ : K.In h₀) (N : News h₀ L s.heap news) (T : Top p loose mean mg mb h₀) (hA : A.frames = some (env :: outer)) (hf : env.frame = some L) (hke : env.scope.kind = .function)
    (ho : K.lookup f = some ⟨oc, od, .func (fnOf name qual params body scope dV kV doc pm an cdv ct), osl⟩) (hcd : codeIn K cdv qual = true) (hroom : A.depth < recursionLimit)
    (hbind : BindsTo s (fnOf name qual params body scope dV kV doc pm an cdv ct) args binds) (hkind : (binds.all fun y => scope.names.lookup y.1 == some .local || scope.names.lookup y.1 == some .cell) = true)
    (hnd : ((cellsFrom 0 scope.names []).map (·.1)).Nodup)
    (h : ∀ g L' h₁ tk cells, Fr h₀ L g m → Fr g L' h₁ (bindL (envOfC qual scope L' f cdv).kindOf binds fun _ => none) → News g L' h₁ (cells ++ news) →
      CellsAre (bindC (envOfC qual scope L' f cdv).kindOf binds fun _ => none) (cellsFrom (L' + 1) scope.names []) cells → Below A base (env :: outer) g → K.In g → Top p loose mean mg mb g → (∀ p ∈ news, p.1 < L') →
      wpAny (model prog w) (A.deeper (envOfC qual scope L' f cdv)) (execs body (envOfC qual scope L' f cdv))
        (fun fl s' => LeaveT ((env :: outer).filterMap (·.frame)) (outer.filterMap (·.frame)) A₀ base outer h₀ L m g R (match fl with | .ret v => v | _ => .none) s')
        (fun e s' => wpAny (model prog w) (A.deeper (envOfC qual scope L' f cdv)) (leaving (envOfC qual scope L' f cdv) e) (fun _ s'' => R (.error e) s'') (fun e' s'' => R (.error e') s'') s')
        { s with heap := h₁, toks := tk })
    (hco : scope.isCoroutine = false) (hgen : scope.isGenerator = false) (hk : scope.kind = .function) : codeAny (model prog w) A (.call (.ref f) args) R s := by
  obtain ⟨FG, BG, st, lv⟩ := groundT (R := R) B F N hA hf hke
  refine codeAny_call_function hroom ((X₀.keeps F.keep) _ _ ho) rfl hco hgen rfl (codeRec_of (X₀.keeps F.keep) hcd) (hbind _ _ _ _ ?_)
  refine wpAny_newFunctionEnv_cells hk (kindsX hkind _) fun env' he s' x => ?_
  subst he
  refine ⟨(T.nolimit.keeps F.keep).keeps x.toInCall.keep, codeAny_func ?_⟩
  obtain ⟨h₁, tk, rfl, _⟩ := x.done
  have hk₁ := x.toInCall.keep
  obtain ⟨cells, NC, Y⟩ := Cl.news (h₀ := s.heap) (Nat.le_refl _) fun n c hm => ⟨x.cell n c (lookup_of_mem_nodup (cellsFrom_names scope.names 0 (s.heap.objs.size + 1) [] [] rfl ▸ hnd) hm), x.above n c hm⟩
  refine wpAny_mono (h _ s.heap.objs.size h₁ tk cells FG ⟨x.toInCall.ns, fun b o e => hk₁ b o (of_hideAll _ e), Nat.le_of_eq (hideAll_size _ _)⟩ (fun p hp => ?_) Y BG (X₀.keeps st) (T.keeps st) (fun p hp => Heap.lt_size (N p hp).1)) (fun fl s' hl => lv _ _ hl) fun _ _ y => y
  rcases List.mem_append.mp hp with hp | hp
  · refine ⟨(NC p hp).1, (NC p hp).2.1, ?_⟩
    cases q : (hideAll s.heap (news.map (·.1))).get? p.1 with
    | none => rfl
    | some o => have := of_hideAll _ q; rw [(NC p hp).2.2] at this; cases this
  · exact ⟨hk₁ _ _ (N p hp).1, Nat.ne_of_lt (Heap.lt_size (N p hp).1), hideAll_none _ (List.mem_map_of_mem hp)⟩
end
section
variable {prog : Program} {w : World} {A₀ : Around} {E : Value → Shared → Prop} {s' : Shared} {base g g₀ G : Heap} {outer : List Env} {L a e dd C P N : Addr} {m : Str → Option Value} {name : Str} {scope : Scope} {cd : Value}
  {n : Str} {b₀ : Stmt} {suite : List Stmt} {pos np : Pos} {rest : List ExceptHandler} {Q : Flow → Shared → Prop} {news : List (Addr × Obj)} {KF : Frag}
  {p : Program} {loose : List Str} {mean : ExcName → Option Value} {mg mb : Str → Option Value} {x : Str}
  {nm q : Str} {bs : List Value} {hdct : Bool} {sn : List Str} {sub : List Value} {ab : Bool} {col : Option Bool} {cdd : Option Addr} {k0 k1 k2 k3 k5 : Option Value} {newId : String}
theorem o_caught (R : OutOf base G (envOf name scope L a cd :: outer) e (.ref C) dd news s'.heap) (F : Fr g L G m) (K : Below A₀ base outer g) (hsm : G.UpToSlots s'.heap) (XB : KF.In base) (TB : Top p loose mean mg mb base)
    (ex : nsIn KF mainGlobals x = some (some (.ref C))) (hC : KF.lookup C = some (excClassObj nm q C N bs (excTail P) hdct sn sub ab col cdd k0 k1 k2 k3 k5 newId))
    (k : ∀ h' g' oe vs tk, KtsTurn (outer.filterMap (·.frame)) g g' → Fr g' L h' (fun y => if y = n then some (.ref e) else m y) → News g' L h' ((e, oe) :: news) → oe.cls = .ref C → oe.dict = some dd → oe.data = .fields vs →
      Below A₀ base outer g' → KF.In g' → Top p loose mean mg mb g' →
      wpAny (model prog w) ((A₀.deeper (envOf name scope L a cd)).mark (some (.ref e))) (execs (b₀ :: suite) (envOf name scope L a cd))
        (fun f s₄ => wpAny (model prog w) (A₀.deeper (envOf name scope L a cd)) (do bindName (envOf name scope L a cd) n .none; unbindBehindTheSuite (envOf name scope L a cd) n pos) (fun _ s₅ => Q f s₅) E s₄)
        (AsSuiteRaised (model prog w) ((A₀.deeper (envOf name scope L a cd)).mark (some (.ref e))) (envOf name scope L a cd) n pos (notedBy (model prog w) ((A₀.deeper (envOf name scope L a cd)).mark (some (.ref e))) (envOf name scope L a cd) (cameBackBy (model prog w) (A₀.deeper (envOf name scope L a cd)) (envOf name scope L a cd) E)))
        { s' with heap := h', toks := tk })
    (hk : scope.kind = .function) (hlo : (envOf name scope L a cd).kindOf n = some .local) (hx : (envOf name scope L a cd).kindOf x = some .globalImplicit) (hd : (x == ("__debug__" : Str)) = false) :
    wpAny (model prog w) (A₀.deeper (envOf name scope L a cd)) (noteFrame (.ref e) (envOf name scope L a cd))
      (fun _ s₂ => wpAny (model prog w) (A₀.deeper (envOf name scope L a cd)) (setFlight (.ref e) none) (fun _ s₃ =>
        wpAny (model prog w) (A₀.deeper (envOf name scope L a cd)) (handleBy (.ref e) (envOf name scope L a cd) (.ExceptHandler (some (.Name x np)) (some n) (b₀ :: suite) pos :: rest)) Q E s₃) E s₂) E s' := by
  obtain ⟨B, hB, hBG, hl, f1, f2, f3, f4⟩ := R
  have hL : B.get? L = none := by
    obtain ⟨_, ⟨L', _, hf, hn', _⟩, _⟩ := f3
    obtain rfl : L = L' := Option.some.inj hf
    exact hn'
  refine w_note_next (Around.frames_deeper K.stack) f3 rfl f1 f2 f4 fun h₄ k₄ => ?_
  refine w_set (s := { s' with heap := h₄ }) k₄.stays k₄.frames k₄.way fun h₅ k₅ => ?_
  have sm₅ := hsm.trans (k₄.slots.trans k₅.slots)
  obtain ⟨g₅, T₅, F₅, K₅⟩ := kts_ground K F hBG k₅.stays sm₅
  have X₅ : KF.In g₅ := XB.keeps K₅.stays
  have P₅ : TopRead p loose mg mb g₅ := topRead_of (TB.keeps K₅.stays)
  obtain ⟨ob, _, hob, hobc, _⟩ := k₅.way.obj
  have hC₅ := F₅.keep _ _ (X₅ _ _ hC)
  refine wpAny_handleBy_cons (codeAny_handlers_test (name_K F₅ X₅ P₅ ex ?_ hk hx hd)) (by intro q; cases q)
  refine wpAny_excMatches_sub_self hC₅ hob hobc (by simp [excTail]) (codeAny_handlers_suite_as ?_)
  refine w_set (s := { s' with heap := h₅ }) k₅.stays k₅.frames k₅.way fun h₆ k₆ => ?_
  have sm₆ := sm₅.trans k₆.slots
  obtain ⟨g₆, T₆, F₆, K₆⟩ := kts_ground K F hBG k₆.stays sm₆
  obtain ⟨oe, vs, hoe, hoec, hoedi, hoed⟩ := k₆.way.obj
  have ne₆ : g₆.get? e = none := T₆.none_ _ (kts_fresh F hBG f2 fun o ho m => by
    obtain ⟨_, o', ho', hd⟩ := K.frames.mem m
    rw [ho] at ho'
    cases ho'
    obtain ⟨sl, hs⟩ := sm₆ _ _ (F.keep _ _ ho) hd
    rw [hoe] at hs
    cases hs
    exact hd _ hoed)
  have Nl : News g₆ L h₆ news := fun q hq => ⟨k₆.stays _ _ (hl q hq).1, (fun z => by have := (hl q hq).1; rw [z, hL] at this; cases this), T₆.none_ _ (kts_none F.keep (hl q hq).2.1)⟩
  have N₆ := News.more F₆ Nl hoe (fun es n q => by rw [hoed] at q; cases q) ne₆
  refine stN F₆ N₆ (fun h₇ F₇ N₇ => ?_) hk hlo
  exact k h₇ g₆ oe vs _ T₆ F₇ N₇ hoec hoedi hoed K₆ (XB.keeps K₆.stays) (TB.keeps K₆.stays)
end
end
section
/-- as Amb, but the callers' frames may have been touched (their slots) -/
abbrev AmbT (lv : Nat) (w : World) (p : Program) (loose : List Str) (mean : ExcName → Option Value) (mg mb : Str → Option Value) (f : Addr) (args : List Value) (news : List (Addr × Obj)) (Ret : Value → List (Addr × Obj) → Prop) : Prop :=
  ∀ (dp un : Nat) (gd : Option (List Code)) (cn : Str) (cs : Scope) (a : Addr) (ccd : Value) (cl : List (Str × Addr)) (outer : List Env) (A₀ : Around) (base h₀ : Heap) (L : Addr) (m : Str → Option Value) (s : Shared) (Q E : Value → Shared → Prop),
    Below A₀ base outer h₀ → Fr h₀ L s.heap m → (Mine.hd.heap_1 w.params).In base → News h₀ L s.heap news → Top p loose mean mg mb base → cs.kind = .function → dp + 20 * lv < recursionLimit → un + 200 * lv < cLine →
    (∀ r news' h' tk' h₀', KtsTurn (outer.filterMap (·.frame)) h₀ h₀' → Below A₀ base outer h₀' → Fr h₀' L h' m → News h₀' L h' news' → Ret r news' → Q r { s with heap := h', toks := tk' }) →
    wpAny (model PySem.Challenge.rw_nt0483_01.row.prog w) (ktrTop dp un gd cn cs L a ccd cl outer) (call (.ref f) args) Q E s
theorem AmbT.use {lv : Nat} {w : World} {p : Program} {loose : List Str} {mean : ExcName → Option Value} {mg mb : Str → Option Value} {f : Addr} {args : List Value} {news : List (Addr × Obj)} {Ret : Value → List (Addr × Obj) → Prop} (C : AmbT lv w p loose mean mg mb f args news Ret)
    {dp un : Nat} {gd : Option (List Code)} {cn : Str} {cs : Scope} {a : Addr} {ccd : Value} {cl : List (Str × Addr)} {outer : List Env} {A₀ : Around} {base h₀ : Heap} {L : Addr} {m : Str → Option Value} {s : Shared} {Q E : Value → Shared → Prop}
    (B : Below A₀ base outer h₀) (F : Fr h₀ L s.heap m) (X : (Mine.hd.heap_1 w.params).In base) (N : News h₀ L s.heap news) (T : Top p loose mean mg mb base) (hk : cs.kind = .function) (hd : dp + 20 * lv < recursionLimit) (hu : un + 200 * lv < cLine)
    (k : ∀ r news' h' tk' h₀', KtsTurn (outer.filterMap (·.frame)) h₀ h₀' → Below A₀ base outer h₀' → Fr h₀' L h' m → News h₀' L h' news' → Ret r news' → Q r { s with heap := h', toks := tk' }) :
    wpAny (model PySem.Challenge.rw_nt0483_01.row.prog w) (ktrTop dp un gd cn cs L a ccd cl outer) (call (.ref f) args) Q E s := C _ _ _ _ _ _ _ _ _ _ _ _ _ _ _ _ _ B F X N T hk hd hu k
theorem said_M17_1 : True := by
  k_with "call ref" => (first | ((k_here; (with_reducible show wpAny _ _ (call (Value.ref _) []) _ _ _); k_dflt (refine' AmbR.use (by assumption) ?zqB ?zqF ?zqX ?zqN ?zqT ?zqhk ?zqhd ?zqhu ?_; walk_at "sd a"; walk_at "sd t"); intro zqe' zqdd' zqhs' zqu' zqv' zqnews' zqh' zqtk' zqg' zqFG' zqR' zqU' zqt1')) | fail)
  k_with "callWith ref" => (first | ((k_here; k_dflt (first | (refine' callWith_F ?zqk1 ?_; (case zqk1 => exact FnAt.of (by k_asm) (by k_mem)); k_whole) | (refine' callWith_F0 ?zqk1 ?_; (case zqk1 => exact FnAt.of (by k_asm) (by k_mem)); k_whole; try dsimp only [List.nil_append, List.cons_append])))) | fail)
  k_with "getAttr ref" => (first | ((k_here; k_dflt (refine' x_get (C := 45) ?zqF ?zqN ?zqX ?zqhe ?zqc1 ?zqc2 ?zqc3 ?zqhdd ?zqhga ?zqhk ?zqhn ?zqhh ?zqhb ?zqhl ?zqhv ?_; (case zqF => k_asm); (case zqN => k_asm); (case zqX => k_asm); (case zqc1 => assumption); (case zqhe => k_mem); (case zqc2 => assumption); (case zqc3 => assumption); (case zqhdd => k_mem); (case zqhga => k_is); (case zqhk => k_is); (case zqhn => k_is); (case zqhh => k_is); (case zqhb => k_is); (case zqhl => rfl); (case zqhv => assumption)))) | fail)
  trivial
set_option maxRecDepth 100000 in
set_option maxHeartbeats 8000000 in
theorem told_raises (w : World) (p : Program) (loose : List Str) (mean : ExcName → Option Value) (mg mb : Str → Option Value) {lv : Nat} {lam : Addr} {news : List (Addr × Obj)} {Tell : Value → List (Addr × Obj) → Prop}
{nm ql : Str} {prm : Arguments} {bdy : PySem.Expr} {scp : Scope} {clo : List (Str × Addr)} {pmv ctv : Value} {cda : Addr}
    (hlam : (lam, kla_obj nm ql prm bdy scp clo pmv cda ctv) ∈ news) (C : AmbR lv w p loose mean mg mb lam [] news Tell) (hT : ∀ v n', Tell v n' → handedIn v = true) :
    AmbT (lv + 1) w p loose mean mg mb 215 [.ref lam] news Tell := by
  w_top off
  unfold AmbT
  k_fill
  intro dp un gd cn cs a ccd cl outer A₀ base h₀ L m s Q E B F X N T hk hd hu hret
  have X₀ := X.keeps B.stays
  have T₀ := T.keeps B.stays
  refine wpAny_call ?_
  refine' code_defT ?k1 ?k2 ?k3 ?k4 ?k5 ?kA ?kF ?kK ?k6 ?k7 ?k8 ?k9 ?kB ?_ ?c2 ?c3 ?c4 ?c5
  (case kA => exact rfl)
  (case kF => exact rfl)
  (case kK => assumption)
  (case k1 => k_asm)
  (case k2 => k_asm)
  (case k3 => k_asm)
  (case k4 => k_asm)
  (case k5 => k_asm)
  (case k6 => k_is)
  (case k7 => k_is)
  (case k8 => ktr_room)
  (case k9 => exact BindsTo.of_eq rfl)
  (case c5 => decide)
  (case kB => exact locs rfl)
  (case c2 => exact rfl)
  (case c3 => exact rfl)
  (case c4 => exact rfl)
  intro g' L' h' FG' F' N' B' X' T'
  try dsimp only
  try k_lift B'
  try k_fold
  k_steps
  rename OutOf _ _ _ _ _ _ _ _ => kR
  rename Tell _ _ => kT
  refine' o_caught (P := 32) kR ?F ?K ?U ?XB ?TB ?ex ?hC ?k ?hk ?hlo ?hx ?hd
  (case F => assumption)
  (case K => assumption)
  (case U => assumption)
  (case XB => assumption)
  (case TB => assumption)
  (case ex => k_is)
  (case hC => k_is)
  (case hk => rfl)
  (case hlo => rfl)
  (case hx => rfl)
  (case hd => decide)
  have kV := hT _ _ kT
  intro h1 g1 oe vs tk1 T1 F1 N1 c1 c2 c3 B1 X1 P1
  k_steps
  try dsimp only
  rename News g1 _ _ _ => kN
  exact ⟨g1, _, _, _, T1, by assumption, news_sub kN fun p hp => .tail _ (.tail _ hp), fun h₀' t1 b1 f1 n1 => hret _ _ _ _ h₀' t1 b1 f1 n1 kT⟩
theorem said_M17_2 : True := by
  k_with "call ref" => (first | ((k_here; (with_reducible show wpAny _ _ (call (Value.ref _) []) _ _ _); k_dflt (refine' Amb.use (by assumption) ?zqB ?zqF ?zqX ?zqN ?zqT ?zqhk ?zqhd ?zqhu ?_; walk_at "sd a"; walk_at "sd t"); intro zqr' zqnews' zqh' zqtk' zqF' zqN' zqt1')) | fail)
  trivial
set_option maxRecDepth 100000 in
set_option maxHeartbeats 8000000 in
theorem told_returns (w : World) (p : Program) (loose : List Str) (mean : ExcName → Option Value) (mg mb : Str → Option Value) {lv : Nat} {lam : Addr} {news : List (Addr × Obj)} {Ret : Value → List (Addr × Obj) → Prop}
    {nm ql : Str} {prm : Arguments} {bdy : PySem.Expr} {scp : Scope} {clo : List (Str × Addr)} {pmv ctv : Value} {cda : Addr}
    (hlam : (lam, kla_obj nm ql prm bdy scp clo pmv cda ctv) ∈ news) (C : Amb lv w p loose mean mg mb lam [] news Ret) :
    Amb (lv + 1) w p loose mean mg mb 215 [.ref lam] news Ret := by
  unfold Amb
  k_fill
  intro dp un gd cn cs a ccd cl outer A₀ base h₀ L m s Q E B F X N T hk hd hu hret
  refine wpAny_call ?_
  k_dflt cell_enter
  k_steps
  exact hret _ _ _ _ (by k_asm) (by k_asm) (by assumption)
end
section
/-- a table of code objects, each a lambda's, in the pool -/
structure TableOk (ps : Array Value) (pool : List (Addr × Obj)) : Prop where
  ok : TriplesOk ps.toList
  hit : ∀ pos cv, codeAmong pos ps.toList = some cv → ∃ c' oc vs t, cv = .ref c' ∧ (c', oc) ∈ pool ∧ oc.data = .fields vs ∧ vs[1]? = some (.str (Str.ofString "_law_deed.<locals>.<lambda>") t)
/-- a and b are two addresses (kept out of omega's sight) -/
structure Neq (a b : Addr) : Prop where
  ne : @Ne Nat a b
theorem Neq.ne' {a b : Addr} (h : Neq a b) : @Ne Nat b a := Ne.symm h.ne
theorem fresh_ne {a D : Addr} {o : Obj} {l : List (Addr × Obj)} (h : ∀ p ∈ l, p.1 < D) (hm : (a, o) ∈ l) : @Ne Nat a D := Nat.ne_of_lt (h _ hm)
theorem fresh_ne' {a D : Addr} {o : Obj} {l : List (Addr × Obj)} (h : ∀ p ∈ l, p.1 < D) (hm : (a, o) ∈ l) : @Ne Nat D a := Ne.symm (fresh_ne h hm)
theorem allFresh_ne {a D : Addr} {o : Obj} {l : List (Addr × Obj)} (h : AllLt D l) (hm : (a, o) ∈ l) : @Ne Nat a D := Nat.ne_of_lt (ktn_ltOf h _ hm)
theorem allFresh_ne' {a D : Addr} {o : Obj} {l : List (Addr × Obj)} (h : AllLt D l) (hm : (a, o) ∈ l) : @Ne Nat D a := Ne.symm (allFresh_ne h hm)
theorem off_ne {a D : Addr} {o : Obj} {l : List (Addr × Obj)} (h : AllNe D l) (hm : (a, o) ∈ l) : @Ne Nat a D := allNe_ne h _ hm
theorem off_ne' {a D : Addr} {o : Obj} {l : List (Addr × Obj)} (h : AllNe D l) (hm : (a, o) ∈ l) : @Ne Nat D a := Ne.symm (off_ne h hm)
/-- x is none of six cells laid behind L -/
structure Cells6 (L x : Addr) : Prop where
  x1 : Neq x (L + 1)
  x2 : Neq x (L + 1 + 1)
  x3 : Neq x (L + 1 + 1 + 1)
  x4 : Neq x (L + 1 + 1 + 1 + 1)
  x5 : Neq x (L + 1 + 1 + 1 + 1 + 1)
  x6 : Neq x (L + 1 + 1 + 1 + 1 + 1 + 1)
theorem cells6 {L x : Nat} (h : x < L) : Cells6 L x := by
  w_top off
  constructor <;> constructor <;> omega
theorem cellsApart {L : Nat} : (Neq (L + 1) (L + 1 + 1) ∧ Neq (L + 1) (L + 1 + 1 + 1) ∧ Neq (L + 1) (L + 1 + 1 + 1 + 1) ∧ Neq (L + 1) (L + 1 + 1 + 1 + 1 + 1) ∧ Neq (L + 1) (L + 1 + 1 + 1 + 1 + 1 + 1)) ∧
    (Neq (L + 1 + 1) (L + 1 + 1 + 1) ∧ Neq (L + 1 + 1) (L + 1 + 1 + 1 + 1) ∧ Neq (L + 1 + 1) (L + 1 + 1 + 1 + 1 + 1) ∧ Neq (L + 1 + 1) (L + 1 + 1 + 1 + 1 + 1 + 1)) ∧
    (Neq (L + 1 + 1 + 1) (L + 1 + 1 + 1 + 1) ∧ Neq (L + 1 + 1 + 1) (L + 1 + 1 + 1 + 1 + 1) ∧ Neq (L + 1 + 1 + 1) (L + 1 + 1 + 1 + 1 + 1 + 1)) ∧
    (Neq (L + 1 + 1 + 1 + 1) (L + 1 + 1 + 1 + 1 + 1) ∧ Neq (L + 1 + 1 + 1 + 1) (L + 1 + 1 + 1 + 1 + 1 + 1)) ∧ Neq (L + 1 + 1 + 1 + 1 + 1) (L + 1 + 1 + 1 + 1 + 1 + 1) := by
  refine ⟨⟨?_, ?_, ?_, ?_, ?_⟩, ⟨?_, ?_, ?_, ?_⟩, ⟨?_, ?_, ?_⟩, ⟨?_, ?_⟩, ?_⟩ <;> constructor <;> omega
/-- the seven objects that stand through the law: the table, the deck and its cells, own, the Stack, its dict and its list -/
structure Heads (dk dc ow ia idd tl : Addr) : Prop where
  n1 : Neq 224 dk
  n2 : Neq 224 dc
  n3 : Neq 224 ow
  n4 : Neq 224 ia
  n5 : Neq 224 idd
  n6 : Neq 224 tl
  n7 : Neq dk dc
  n8 : Neq dk ow
  n9 : Neq dk ia
  n10 : Neq dk idd
  n11 : Neq dk tl
  n12 : Neq dc ow
  n13 : Neq dc ia
  n14 : Neq dc idd
  n15 : Neq dc tl
  n16 : Neq ow ia
  n17 : Neq ow idd
  n18 : Neq ow tl
  n19 : Neq ia idd
  n20 : Neq ia tl
  n21 : Neq idd tl
/-- the pool is apart from them -/
structure Off7 (dk dc ow ia idd tl : Addr) (pool : List (Addr × Obj)) : Prop where
  o0 : ∀ p ∈ pool, p.1 ≠ 224
  o1 : ∀ p ∈ pool, p.1 ≠ dk
  o2 : ∀ p ∈ pool, p.1 ≠ dc
  o3 : ∀ p ∈ pool, p.1 ≠ ow
  o4 : ∀ p ∈ pool, p.1 ≠ ia
  o5 : ∀ p ∈ pool, p.1 ≠ idd
  o6 : ∀ p ∈ pool, p.1 ≠ tl
abbrev deedLed (ps : Array Value) (dk dc ow ia idd tl : Addr) (o : Obj) (cvs vos ts : List Value) (n n2 n3 : Nat) (h1 h2 : Int) (s1 s2 s3 : Tok) (most : Int) (pool : List (Addr × Obj)) : List (Addr × Obj) :=
  (224, tabObj ps) :: (dk, o) :: (dc, W.listOf cvs.toArray n) :: (ow, W.listOf vos.toArray n2) :: stackLed h1 h2 s1 s2 s3 most ia idd tl ts n3 pool
/-- the ledger between two deeds: own stands for ns, and so does the Stack -/
def DeedSt (w : World) (dk dc ow ia idd : Addr) (mixed : Int) (t1 : Tok) (h1 h2 : Int) (s1 s2 s3 : Tok) (most turn : Int) (ns : List Int) (nx : List (Addr × Obj)) : Prop :=
  ∃ ps o cvs cs t2 n vos n2 tl ts n3 pool, nx = deedLed ps dk dc ow ia idd tl o cvs vos ts n n2 n3 h1 h2 s1 s2 s3 most pool ∧ o.IsDictOf (strKind PySem.Challenge.rw_nt0483_01.row.prog w) (deckKvs dc mixed t1 turn t2) ∧ IntsAre cvs cs ∧ cs.length ≤ 16 ∧
    IntsAre vos ns ∧ ThingsAre pool ts ns ∧ TableOk ps pool ∧ Heads dk dc ow ia idd tl ∧ Off7 dk dc ow ia idd tl pool ∧ (ns.length : Int) ≤ most
/-- as AmbT, for a def whose table of code objects is 224 -/
abbrev AmbD (lv : Nat) (w : World) (p : Program) (loose : List Str) (mean : ExcName → Option Value) (mg mb : Str → Option Value) (f : Addr) (args : List Value) (news : List (Addr × Obj)) (Ret : Value → List (Addr × Obj) → Prop) : Prop :=
  ∀ (dp un : Nat) (gd : Option (List Code)) (cn : Str) (cs : Scope) (a : Addr) (ccd : Value) (cl : List (Str × Addr)) (outer : List Env) (A₀ : Around) (base h₀ : Heap) (L : Addr) (m : Str → Option Value) (s : Shared) (Q E : Value → Shared → Prop),
    Below A₀ base outer h₀ → Fr h₀ L s.heap m → (Mine.hd.heap_1 w.params).In base → News h₀ L s.heap news → Top p loose mean mg mb base → CodeHd base 226 224 → cs.kind = .function → dp + 20 * lv < recursionLimit → un + 200 * lv < cLine →
    (∀ r news' h' tk' h₀', KtsTurn (outer.filterMap (·.frame)) h₀ h₀' → Below A₀ base outer h₀' → Fr h₀' L h' m → News h₀' L h' news' → Ret r news' → Q r { s with heap := h', toks := tk' }) →
    wpAny (model PySem.Challenge.rw_nt0483_01.row.prog w) (ktrTop dp un gd cn cs L a ccd cl outer) (call (.ref f) args) Q E s
def AtTold (X : Prop) : Prop := X
theorem atTold {X : Prop} (h : AtTold X) : X := h
theorem among_snoc {pos : Pos} {a b : Nat} {c cv : Value} (l : List Value) (h : TriplesOk l) (e : codeAmong pos (l ++ [rawInt a, rawInt b, c]) = some cv) : codeAmong pos l = some cv ∨ cv = c := by
  fun_induction TriplesOk l with
  | case1 =>
    right
    simp only [List.nil_append, rawInt, codeAmong] at e
    split at e
    · exact (Option.some.inj e).symm
    · cases e
  | case2 x1 x2 x3 x4 x5 rest ih =>
    simp only [List.cons_append, codeAmong] at e ⊢
    split at e
    · rename_i hc
      rw [if_pos hc]
      exact .inl e
    · rename_i hc
      rw [if_neg hc]
      exact ih h e
  | case3 => exact h.elim
theorem triples_snoc {a b : Nat} {c : Value} (l : List Value) (h : TriplesOk l) : TriplesOk (l ++ [rawInt a, rawInt b, c]) := by
  fun_induction TriplesOk l with
  | case1 => exact True.intro
  | case2 x1 x2 x3 x4 x5 rest ih => exact ih h
  | case3 => exact h.elim
theorem tableOk_more {ps : Array Value} {pool : List (Addr × Obj)} (T : TableOk ps pool) {a b : Nat} {c' : Addr} {oc : Obj} {vs : Array Value} {t : Tok} (hd : oc.data = .fields vs) (hv : vs[1]? = some (.str (Str.ofString "_law_deed.<locals>.<lambda>") t)) :
    TableOk (ps ++ #[rawInt a, rawInt b, .ref c']) ((c', oc) :: pool) := by
  refine ⟨?_, fun pos cv e => ?_⟩
  · rw [Array.toList_append]
    exact triples_snoc _ T.ok
  · rw [Array.toList_append] at e
    rcases among_snoc _ T.ok e with e | e
    · obtain ⟨c2, o2, v2, t2, e1, e2, e3, e4⟩ := T.hit pos cv e
      exact ⟨c2, o2, v2, t2, e1, .tail _ e2, e3, e4⟩
    · exact ⟨c', oc, vs, t, e, .head _, hd, hv⟩
theorem TableOk.mono {ps : Array Value} {pool pool' : List (Addr × Obj)} (T : TableOk ps pool) (h : ∀ p ∈ pool, p ∈ pool') : TableOk ps pool' :=
  ⟨T.ok, fun pos cv e => let ⟨c2, o2, v2, t2, e1, e2, e3, e4⟩ := T.hit pos cv e; ⟨c2, o2, v2, t2, e1, h _ e2, e3, e4⟩⟩
/-- c' is none of the ledger's addresses that are apart from the pool -/
def CodeOff (c' : Addr) (pool led : List (Addr × Obj)) : Prop := ∀ x, (∃ o, (x, o) ∈ led) → (∀ q ∈ pool, q.1 ≠ x) → Neq c' x
theorem codeOff_ne {c' x : Addr} {o : Obj} {pool led : List (Addr × Obj)} (h : CodeOff c' pool led) (hm : (x, o) ∈ led) (hp : ∀ q ∈ pool, q.1 ≠ x) : @Ne Nat c' x := (h x ⟨o, hm⟩ hp).ne
theorem codeOff_ne' {c' x : Addr} {o : Obj} {pool led : List (Addr × Obj)} (h : CodeOff c' pool led) (hm : (x, o) ∈ led) (hp : ∀ q ∈ pool, q.1 ≠ x) : @Ne Nat x c' := Ne.symm (codeOff_ne h hm hp)
section
variable {M : Model} {A : Around} {E : Value → Shared → Prop} {s : Shared} {h₀ : Heap} {L a c P : Addr} {m mg mb : Str → Option Value} {cn : Str} {cs : Scope} {ccd : Value} {cl : List (Str × Addr)} {news pool : List (Addr × Obj)} {g : Obj → List (Addr × Obj)}
  {p : Program} {loose : List Str} {mean : ExcName → Option Value} {name qual : Str} {params : Arguments} {body : PySem.Expr} {scope : Scope} {ps : Array Value} {pos : Pos} {firstLine : Nat} {clos : List (Str × Addr)}
/-- a lambda is made: its code object is the table's, old or new -/
theorem lam_any {Q : Value → Shared → Prop} (F : Fr h₀ L s.heap m) (N : News h₀ L s.heap news) (T : Top p loose mean mg mb h₀) (C : CodeHd h₀ c P) (hcd : ccd = .ref c) (U : UpdF P (tabObj ps) news g) (hT : TableOk ps pool) (hp : ∀ q ∈ pool, q ∈ news)
    (hcl : closureFor scope (envX cn cs L a ccd cl) = pure clos) (hq : qual = Str.ofString "_law_deed.<locals>.<lambda>")
    (h : ∀ f c' oc vs t ctv h' tk ps', Fr h₀ L h' m → News h₀ L h' ((f, kla_obj name qual params body scope clos ((mg "__name__").getD .none) c' ctv) :: (c', oc) :: g (tabObj ps')) → oc.data = .fields vs → vs[1]? = some (.str qual t) →
      TableOk ps' ((c', oc) :: pool) → (∀ q ∈ news, q.1 < f) → @LT.lt Nat _ c' f → CodeOff c' pool news → Q (.ref f) { s with heap := h', toks := tk }) :
    wpAny M A (makeFunction name qual params (.expr body) scope (envX cn cs L a ccd cl) [] [] [] pos firstLine) Q E s := by
  subst hq
  have hmem : (P, tabObj ps) ∈ news := by
    obtain ⟨own, rest, e, _⟩ := U.split
    rw [e]; exact List.mem_append_right _ (.head _)
  have hgn : g (tabObj ps) = news := by
    obtain ⟨own, rest, e, hgr, _⟩ := U.split
    rw [hgr, e]
  cases hf : codeAmong pos ps.toList with
  | none =>
    refine kla_nest F N T C hcd U hT.ok hf hcl fun f c' oc vs t ctv h' tk F' N' hd hv l1 l2 => ?_
    refine h f c' oc vs t ctv h' tk _ F' N' hd hv (tableOk_more hT hd hv) (fun q hq => Nat.lt_trans (l1 q hq) l2) l2 fun x hx _ => ?_
    obtain ⟨o, hx⟩ := hx
    exact ⟨Ne.symm (Nat.ne_of_lt (l1 _ hx))⟩
  | some cv =>
    obtain ⟨c', oc, vs, t, rfl, hc, hd, hv⟩ := hT.hit pos cv hf
    refine kla_hit F N T C hcd hmem hT.ok hf hcl fun f ctv h' tk F' N' l1 => ?_
    refine h f c' oc vs t ctv h' tk ps F' (fun q hq => ?_) hd hv (hT.mono fun q hq => .tail _ hq) l1 (l1 _ (hp _ hc)) fun x _ hx => ⟨hx _ hc⟩
    rw [hgn] at hq
    rcases List.mem_cons.mp hq with rfl | hq
    · exact N' _ (.head _)
    rcases List.mem_cons.mp hq with rfl | hq
    · exact N' _ (.tail _ (hp _ hc))
    · exact N' _ (.tail _ hq)
/-- due is set, by the three ways -/
def DueIs (many len : Int) (v : Value) : Prop := (many < 0 ∧ ∃ u, v = .bytes bRange u) ∨ (0 ≤ many ∧ len < many ∧ ∃ u, v = .bytes bUnder u) ∨ (0 ≤ many ∧ many ≤ len ∧ v = .none)
def DueEnd (h₀ : Heap) (L : Addr) (m : Str → Option Value) (news : List (Addr × Obj)) (many len : Int) (s : Shared) (fl : Flow) (s₁ : Shared) : Prop :=
  ∃ h' tk' v, fl = .next ∧ s₁ = { s with heap := h', toks := tk' } ∧ Fr h₀ L h' (fun y => if y = Str.ofString "due" then some v else m y) ∧ News h₀ L h' news ∧ DueIs many len v
theorem due_cut {x : Sem Flow} {E' : Value → Shared → Prop} {Q : Flow → Shared → Prop} {many len : Int} (F : Fr h₀ L s.heap m) (N : News h₀ L s.heap news) (h1 : wpAny M A x (DueEnd h₀ L m news many len s) E' s)
    (h2 : ∀ h' tk' v, Fr h₀ L h' (fun y => if y = Str.ofString "due" then some v else m y) → News h₀ L h' news → DueIs many len v → Q .next { s with heap := h', toks := tk' }) : wpAny M A x Q E' s :=
  wpAny_mono h1 (fun fl s₁ hh => by obtain ⟨h', tk', v, rfl, rfl, a, b, c⟩ := hh; exact h2 h' tk' v a b c) fun _ _ z => z
end
end
section
section
variable {prog : Program} {w : World} {A : Around} {E : Value → Shared → Prop} {s : Shared} {h₀ : Heap} {L l b D : Addr} {m : Str → Option Value} {news news' : List (Addr × Obj)} {g : Obj → List (Addr × Obj)} {n n2 : Nat} {vs ws : List Value} {v : Value} {k : Int} {u : Tok}
theorem m_bounds_from {x : Int} (h0 : 0 ≤ x) (N : Nat) : sliceBounds (some x) none none N = (((min x.toNat N : Nat) : Int), (N : Int), 1) := by
  w_top off
  simp only [sliceBounds, Option.getD_none, show (1 : Int) > 0 by decide, if_true, if_neg (show ¬ (x < 0) by omega)]
  congr 1
  omega
theorem m_items {M : Model} {a : Addr} {o : Obj} {items : Array Value} {n : Nat} {Q : Array Value → Shared → Prop} (ho : s.heap.get? a = some o) (hd : o.data = .seq items n) (h : Q items s) : wpAny M A (Builtin.List.listItems (.ref a)) Q E s := by
  unfold Builtin.List.listItems
  exact wpAny_bind (wpAny_seqItems ho hd (wpAny_pure h))
/-- own[x:] = ws -/
theorem m_setslice {x : Int} {Q : Unit → Shared → Prop} (F : Fr h₀ L s.heap m) (N : News h₀ L s.heap news) (hb : (b, W.listOf ws.toArray n2) ∈ news) (U : UpdF D (W.listOf vs.toArray n) news g) (hne : @Ne Nat D b) (h0 : 0 ≤ x) (hz : vs.length ≤ 1000) (hz2 : ws.length ≤ 1000)
    (h : ∀ h' n', Fr h₀ L h' m → News h₀ L h' (g (W.listOf (vs.take x.toNat ++ ws).toArray n')) → Q () { s with heap := h' }) :
    wpAny (model prog w) A (setItem (.ref D) (.ref s.heap.objs.size) (.ref b)) Q E { s with heap := s.heap.push { cls := .type "slice", data := .fields #[.int x u, .none, .none] } } := by
  obtain ⟨pre, post, rfl, hg, a, c⟩ := U.split
  have F1 := F.push { cls := .type "slice", data := .fields #[.int x u, .none, .none] }
  have N1 : News h₀ L (s.heap.push { cls := .type "slice", data := .fields #[.int x u, .none, .none] }) _ := N.grown fun _ _ e => Heap.get?_push_of_some _ e
  have hD : (s.heap.push { cls := .type "slice", data := .fields #[.int x u, .none, .none] }).IsList D vs.toArray := News.isList N1 (List.mem_append.mpr (.inr (.head _)))
  have hB : (s.heap.push { cls := .type "slice", data := .fields #[.int x u, .none, .none] }).IsList b ws.toArray := News.isList N1 hb
  have hs := Heap.IsSliceOf.new s.heap (.int x u) .none .none
  obtain ⟨os, hos, hcs, hds⟩ := id hs
  have hz3 : ((s.heap.push { cls := .type "slice", data := .fields #[.int x u, .none, .none] })).get? D = some (W.listOf vs.toArray n) := (N1 _ (List.mem_append.mpr (.inr (.head _)))).1
  have hz4 : ((s.heap.push { cls := .type "slice", data := .fields #[.int x u, .none, .none] })).get? b = some (W.listOf ws.toArray n2) := (N1 _ hb).1
  have hfin : ∀ h', Fr h₀ L h' m → (∃ n', News h₀ L h' (g (W.listOf (vs.take x.toNat ++ ws).toArray n'))) → Q () { s with heap := h' } := fun h' F' ⟨n', N'⟩ => h h' n' F' N'
  have zD := N1 (D, W.listOf vs.toArray n) (List.mem_append.mpr (.inr (.head _)))
  have F2 : ∀ f, Fr h₀ L ((s.heap.push { cls := .type "slice", data := .fields #[.int x u, .none, .none] }).update D (Obj.mapSeq f)) m := fun f => F1.change (Heap.SameBut.update ..) zD.2.1 zD.2.2
  have N2 : ∀ f, f vs.toArray = (vs.take x.toNat ++ ws).toArray → ∃ n', News h₀ L ((s.heap.push { cls := .type "slice", data := .fields #[.int x u, .none, .none] }).update D (Obj.mapSeq f)) (g (W.listOf (vs.take x.toNat ++ ws).toArray n')) := fun f hf => by
    have q := PySem.IsL.update zD.1 f
    rw [hf] at q
    have e : ∃ n', n' = (if ((vs.take x.toNat ++ ws).toArray.size == vs.toArray.size) = true then n else n + 1) := ⟨_, rfl⟩
    obtain ⟨n', e⟩ := e
    rw [← e] at q
    refine ⟨n', ?_⟩
    rw [hg]
    exact news_set N1 a c (Heap.SameBut.update ..) q
  generalize s.heap.push { cls := .type "slice", data := .fields #[.int x u, .none, .none] } = hh at *
  generalize hsl : s.heap.objs.size = sl at *
  have key : ∀ st : Shared, st = { s with heap := hh } → wpAny (model prog w) A (setItem (.ref D) (.ref sl) (.ref b)) Q E st := fun st est => by
    have ehp : st.heap = hh := by rw [est]
    rw [← ehp] at hD hB hos hs hz3 hz4
    have hTs : st.TypeIs (.ref sl) "slice" := ⟨os, hos, hcs⟩
    unfold setItem
    try with_reducible refine wpAny_holding ?_
    first | refine wpAny_bind (wpAny_pure ?_) | skip
    refine wpAny_bind (wpAny_sequenceKey hD.typeIs (by decide) ?_)
    refine wpAny_bind (wpAny_callSpecial?_slot (name := Str.ofString "__setitem__") hD.typeIs slot_list_setitem
      (wpAny_call_entry slot_list_setitem hD.typeIs entry_list_setitem ?_ (args_list_setitem _ _ _)))
    show wpAny _ _ (Builtin.List.listSubscript? (.ref sl) >>= _) _ _ _
    refine wpAny_bind ?_
    unfold Builtin.List.listSubscript?
    refine wpAny_bind (wpAny_specialOf hTs slice_no_index ?_)
    simp only [Option.isNone_none, if_true]
    refine wpAny_pure ?_
    show wpAny _ _ (typeOf (.ref sl) >>= _) _ _ _
    refine wpAny_bind (wpAny_typeOf hTs ?_)
    rw [if_neg (by decide)]
    rw [listSliceParts_eq]
    refine wpAny_bind (wpAny_bind (wpAny_field hos hds (x := .none) rfl (wpAny_bind (wpAny_listPart .none ?_))))
    rw [if_neg (by decide)]
    refine wpAny_bind (wpAny_field hos hds (x := .int x u) rfl (wpAny_bind (wpAny_listPart (.int x u) ?_)))
    refine wpAny_bind (wpAny_field hos hds (x := .none) rfl (wpAny_bind (wpAny_listPart .none (wpAny_pure ?_))))
    have hne2 : ¬ (Builtin.List.listSameRef (.ref D) (.ref b) = true) := by
      unfold Builtin.List.listSameRef
      simpa using hne
    rw [if_neg hne2]
    refine wpAny_bind ?_
    unfold Builtin.List.listAllItems
    refine wpAny_bind (wpAny_typeOf hB.typeIs ?_)
    rw [if_pos (by decide)]
    refine m_items hz4 rfl ?_
    refine wpAny_bind (m_items hz3 rfl ?_)
    refine wpAny_bind (wpAny_of_eq (sliceIndices_raw (some x) none none vs.toArray.size (by simp)) ?_)
    rw [m_bounds_from h0]
    try dsimp only
    rw [if_pos (by decide)]
    rw [if_neg (by unfold Builtin.List.listTooLong; rw [List.size_toArray, List.size_toArray, sizeLine_eq, decide_eq_true_eq]; omega)]
    unfold Builtin.List.listUpdate
    have ef : (fun xs : Array Value => xs.extract 0 ((min x.toNat vs.toArray.size : Nat) : Int).toNat ++ ws.toArray ++ xs.extract (max ((min x.toNat vs.toArray.size : Nat) : Int) (vs.toArray.size : Int)).toNat) vs.toArray = (vs.take x.toNat ++ ws).toArray := by
      have e1 : ((min x.toNat vs.toArray.size : Nat) : Int).toNat = min x.toNat vs.length := by rw [List.size_toArray]; omega
      have e2 : (max ((min x.toNat vs.toArray.size : Nat) : Int) (vs.toArray.size : Int)).toNat = vs.length := by rw [List.size_toArray]; omega
      try dsimp only
      rw [e1, e2]
      apply Array.toList_inj.mp
      simp only [Array.toList_append, Array.toList_extract, List.extract_eq_take_drop, List.drop_zero, Nat.sub_zero, List.size_toArray]
      rw [kmk_take_min, List.append_assoc]
      simp
    obtain ⟨n', N'⟩ := N2 (fun xs : Array Value => xs.extract 0 ((min x.toNat vs.toArray.size : Nat) : Int).toNat ++ ws.toArray ++ xs.extract (max ((min x.toNat vs.toArray.size : Nat) : Int) (vs.toArray.size : Int)).toNat) ef
    have hsz : (vs.take x.toNat ++ ws).toArray.size ≤ sizeLine + 1 := by rw [List.size_toArray, List.length_append, List.length_take, sizeLine_eq]; omega
    rw [← ef] at hsz
    refine wpAny_bind (wpAny_rule ?_)
    refine wpAny_bind (wpAny_updateSeq (f := fun xs : Array Value => xs.extract 0 ((min x.toNat vs.toArray.size : Nat) : Int).toNat ++ ws.toArray ++ xs.extract (max ((min x.toNat vs.toArray.size : Nat) : Int) (vs.toArray.size : Int)).toNat) hz3 rfl ?_ (hz := by rw [List.size_toArray, sizeLine_eq]; omega) (_hz' := hsz))
    refine wpAny_bind (wpAny_letGo ?_)
    refine wpAny_pure ⟨.none, rfl, wpAny_pure ?_⟩
    subst est
    exact h _ n' (F2 _) N'
  exact key _ rfl
end
theorem said_MS_1 : True := by
  k_with "setItem ref ref" => (first | ((k_here; (with_reducible show wpAny _ _ (setItem (Value.ref _) (Value.ref _) (Value.ref _)) _ _ _); k_dflt (refine' m_setslice ?zqF ?zqN ?zqb ?zqU ?zqne ?zqh0 ?zqz ?zqy ?_; (case zqF => k_asm); (case zqN => k_asm); (case zqb => k_mem); (case zqU => k_updF); (case zqne => k_ne); (case zqh0 => omega); (case zqz => lcg_off); (case zqy => lcg_off)); intro zqh' zqn' zqF' zqN'; (try dsimp only at zqN'); (try k_sweep))) | fail)
  trivial
end
theorem allLt_up {d x : Nat} : ∀ {l : List (Addr × Obj)}, AllLt d l → d < x → AllLt x l
  | [], _, _ => trivial
  | _ :: _, h, hx => ⟨Nat.lt_trans h.1 hx, allLt_up h.2 hx⟩
theorem sub_mem {q : Addr × Obj} {l l' : List (Addr × Obj)} (hs : ∀ p ∈ l, p ∈ l') (h : q ∈ l) : q ∈ l' := hs q h
theorem offAll_leaf {a : Addr} {o : Obj} {pool front : List (Addr × Obj)} (h : OffAll pool front) (hm : (a, o) ∈ front) : ∀ p ∈ pool, p.1 ≠ a := fun p hp => h.mem _ hm p hp
/-- the statements of a def of the written part -/
def bodyAt (K : Frag) (f : Addr) : List Stmt :=
  match K.lookup f with
  | some ⟨_, _, .func fd, _⟩ => (match fd.body with | .stmts b => b | _ => [])
  | _ => []
/-- its scope -/
def scopeAt (K : Frag) (f : Addr) : Scope :=
  match K.lookup f with
  | some ⟨_, _, .func fd, _⟩ => fd.scope
  | _ => { kind := .function, names := [], isGenerator := false, isCoroutine := false }
/-- the deed behind its first three statements -/
noncomputable def deedTail (w : World) : List Stmt := (bodyAt (Mine.hd.heap_1 w.params) 227).drop 3
noncomputable def deedScope (w : World) : Scope := scopeAt (Mine.hd.heap_1 w.params) 227
/-- a way of the deed: from behind «due» to the deed's end, which is True -/
abbrev WayAmb (lv : Nat) (w : World) (p : Program) (loose : List Str) (mean : ExcName → Option Value) (mg mb : Str → Option Value) (cl : List (Str × Addr)) (ow : Addr) (most way : Int) (isl : Bool) (due : Value) (tm tw : Tok) (news : List (Addr × Obj)) (Ret : List (Addr × Obj) → Prop) : Prop :=
  ∀ (dp un : Nat) (gd : Option (List Code)) (outer : List Env) (A₀ : Around) (base h₀ : Heap) (L : Addr) (s : Shared) (Q : Flow → Shared → Prop) (E : Value → Shared → Prop),
    Below A₀ base outer h₀ → Fr h₀ L s.heap (fun y => if y = Str.ofString "due" then some due else if y = Str.ofString "is_less" then some (.bool isl) else if y = Str.ofString "way" then some (.int way tw) else if y = Str.ofString "most" then some (.int most tm) else if y = Str.ofString "own" then some (.ref ow) else none) →
    (Mine.hd.heap_1 w.params).In base → News h₀ L s.heap news → Top p loose mean mg mb base → CodeHd base 226 224 → dp + 20 * lv < recursionLimit → un + 200 * lv < cLine →
    (∀ h' tk' m' h₀' news', KtsTurn (outer.filterMap (·.frame)) h₀ h₀' → Below A₀ base outer h₀' → Fr h₀' L h' m' → News h₀' L h' news' → Ret news' → Q (.ret (.bool true)) { s with heap := h', toks := tk' }) →
    wpAny (model PySem.Challenge.rw_nt0483_01.row.prog w) (ktrTop dp un gd (Str.ofString "_law_deed") (deedScope w) L 227 (.ref 226) cl outer) (execs (deedTail w) (envX (Str.ofString "_law_deed") (deedScope w) L 227 (.ref 226) cl)) Q E s
/-- the cells of the deed -/
abbrev deedCl (ck ci cb cm cn cs : Addr) : List (Str × Addr) :=
  [(Str.ofString "some", cs), (Str.ofString "number", cn), (Str.ofString "many", cm), (Str.ofString "by", cb), (Str.ofString "it", ci), (Str.ofString "deck", ck)]
/-- the cells that a way reads, in the pool -/
structure CellsIn (pool : List (Addr × Obj)) (ck ci cm : Addr) (dk ia : Addr) (many : Int) : Prop where
  deck : ∃ o, (ck, o) ∈ pool ∧ o.data = .cell (some (.ref dk))
  it : ∃ o, (ci, o) ∈ pool ∧ o.data = .cell (some (.ref ia))
  many : ∃ o t, (cm, o) ∈ pool ∧ o.data = .cell (some (.int many t))
/-- x is a cell of its own, apart from the seven objects and the pool -/
structure Own (x dk dc ow ia idd tl : Addr) (pool : List (Addr × Obj)) : Prop where
  w0 : Neq x 224
  w1 : Neq x dk
  w2 : Neq x dc
  w3 : Neq x ow
  w4 : Neq x ia
  w5 : Neq x idd
  w6 : Neq x tl
  w7 : ∀ p ∈ pool, p.1 ≠ x
theorem said_M20_1 : True := by
  k_with "call ref" => (first | ((k_here; (with_reducible show wpAny _ _ (call (Value.ref 215) [Value.ref _]) _ _ _); k_dflt (refine atTold ?_))) | fail)
  trivial
local macro_rules | `(tactic| k_slotset) => `(tactic| k_extra "my k_slotset")
theorem said_M20_2 : True := by
  k_with "my k_slotset" => (first | (first | with_reducible exact List.mem_cons_self | (with_reducible refine' List.mem_cons_of_mem _ ?_; k_slotset) | with_reducible assumption | exact sub_mem (by with_reducible assumption) (by with_reducible assumption)) | fail)
  trivial
local macro_rules | `(tactic| k_slotget) => `(tactic| k_extra "my k_slotget")
theorem said_M20_3 : True := by
  k_with "my k_slotget" => (first | (first | with_reducible assumption | (with_reducible refine' List.forall_mem_cons.mpr ⟨?_, ?_⟩; (· k_ne); (· k_slotget)) | with_reducible exact List.forall_mem_nil _ | exact forall_sub (allNe_ne (by with_reducible assumption)) (by tb_rel) | exact forall_sub (allLt_ne (by with_reducible assumption)) (by tb_rel) | exact forall_sub (lt_ne (by with_reducible assumption)) (by tb_rel) | exact forall_sub (off1_ne (by with_reducible assumption)) (by tb_rel) | (refine' offAll_leaf (by with_reducible assumption) ?zqm; (case zqm => k_slotset))) | fail)
  trivial
local macro_rules | `(tactic| k_data) => `(tactic| k_extra "my k_data")
theorem said_M20_4 : True := by
  k_with "my k_data" => (first | (first | with_reducible exact Ext.head | (refine' Ext.tail ?zqe; (case zqe => k_data))) | fail)
  k_with "my tb_start" => (first | (k_data) | fail)
  trivial
local macro_rules | `(tactic| k_is_topread) => `(tactic| k_extra "my k_is_topread")
theorem said_M20_5 : True := by
  k_with "my k_is_topread" => (first | (first | with_reducible exact sub_self | (with_reducible refine' sub_cons ?_ ?_; (· k_slotset); (· k_is_topread)) | with_reducible assumption | (with_reducible refine' sub_tail ?zqb; (case zqb => k_is_topread)) | with_reducible exact sub_nil) | fail)
  k_with "my tb_rel" => (first | (k_is_topread) | fail)
  k_with "my k_mem" => (first | (k_slotset) | fail)
  k_with "my k_all" => (first | (k_slotget) | fail)
  trivial
local macro_rules | `(tactic| k_ne) => `(tactic| k_extra "my k_ne")
theorem said_M20_6 : True := by
  k_with "my k_ne" => (first | ((refine neN ?_; (try dsimp only); (first | exact Neq.ne (by with_reducible assumption) | exact Neq.ne' (by with_reducible assumption) | (refine' allFresh_ne (by with_reducible assumption) ?zqm; (case zqm => k_slotset)) | (refine' allFresh_ne' (by with_reducible assumption) ?zqm; (case zqm => k_slotset)) | (refine' fresh_ne (by with_reducible assumption) ?zqm; (case zqm => k_slotset)) | (refine' fresh_ne' (by with_reducible assumption) ?zqm; (case zqm => k_slotset)) | (refine' off_ne (by with_reducible assumption) ?zqm; (case zqm => k_slotset)) | (refine' off_ne' (by with_reducible assumption) ?zqm; (case zqm => k_slotset)) | (refine' codeOff_ne (by with_reducible assumption) ?zqm ?zqp; (case zqm => k_slotset); (case zqp => k_slotget)) | (refine' codeOff_ne' (by with_reducible assumption) ?zqm ?zqp; (case zqm => k_slotset); (case zqp => k_slotget)) | omega))) | fail)
  k_with "call ref" => (first | ((k_here; (with_reducible show wpAny _ _ (call (Value.ref 201) [Value.int _ _]) _ _ _); k_dflt (refine' Amb.use (thing_spec _ _ _ _ _ _ _ _ _) ?zqB ?zqF ?zqX ?zqN ?zqT ?zqhk ?zqhd ?zqhu ?_; walk_at "sd a"; walk_at "sd t"); rintro zqr' zqnews' zqh' zqtk' zqF' zqN' ⟨zqx', zqd', zqes', zqnn', zqe1', zqe2', zqhE', zql1, zql3⟩; subst zqe1' zqe2'; (have zql4' := allLt_up zql1 zql3); (replace zql3 := Neq.mk (Nat.ne_of_lt zql3)); (try k_sweep))) | fail)
  k_with "call ref" => (first | ((k_here; (with_reducible show wpAny _ _ (call (Value.ref 208) [_]) _ _ _); k_dflt (refine' Amb.use (number_spec _ _ _ _ _ _ _ _ _ ?zqhv) ?zqB ?zqF ?zqX ?zqN ?zqT ?zqhk ?zqhd ?zqhu ?_; walk_at "sd a"; (case zqhv => exact ThingIn.mono (by assumption) (by tb_rel)); walk_at "sd t"); rintro zqr' zqnews' zqh' zqtk' zqF' zqN' ⟨⟨zqt', zqe1'⟩, zqe2'⟩; subst zqe1' zqe2'; (try k_sweep))) | fail)
  k_with "call ref" => (first | ((k_here; (with_reducible show wpAny _ _ (call (Value.ref 76) [Value.ref _, _]) _ _ _); k_dflt (refine' Amb.use (push_ok _ _ _ _ _ _ ?zqap ?zqhl ?zqhm) ?zqB ?zqF ?zqX (news_stack ?zqN ?zqe1 ?zqe2 ?zqe3) ?zqT ?zqhk ?zqhd ?zqhu ?_; walk_at "sd ae"; (case zqhl => lcg_off); (case zqhm => omega); walk_at "sd pt"); rintro zqr' zqnews' zqh' zqtk' zqF' zqN' ⟨zqe1', zqn', zqe2'⟩; subst zqe1' zqe2'; (try dsimp only [stackLed, stackEs] at zqN'); (try k_sweep))) | fail)
  k_with "call ref" => (first | ((k_here; (with_reducible show wpAny _ _ (call (Value.ref 76) [Value.ref _, _]) _ _ _); k_dflt (refine' AmbR.use (push_raises _ _ _ _ _ _ ?zqap ?zqhl ?zqhm) ?zqB ?zqF ?zqX (news_stack ?zqN ?zqe1 ?zqe2 ?zqe3) ?zqT ?zqhk ?zqhd ?zqhu ?_; walk_at "sd ae"; (case zqhl => lcg_off); (case zqhm => lcg_off); walk_at "sd pt"); walk_at "sd r")) | fail)
  k_with "call ref" => (first | ((k_here; (with_reducible show wpAny _ _ (call (Value.ref 90) [Value.ref _]) _ _ _); k_dflt (refine' Amb.use (pop_ok _ _ _ _ _ _ ?zqap ?zqhl) ?zqB ?zqF ?zqX (news_stack ?zqN ?zqe1 ?zqe2 ?zqe3) ?zqT ?zqhk ?zqhd ?zqhu ?_; walk_at "sd ae"; (case zqhl => lcg_off); walk_at "sd pt"); rintro zqr' zqnews' zqh' zqtk' zqF' zqN' ⟨zqe1', zqn', zqe2'⟩; subst zqe1' zqe2'; (try dsimp only [stackLed, stackEs] at zqN'); (try k_sweep))) | fail)
  k_with "call ref" => (first | ((k_here; (with_reducible show wpAny _ _ (call (Value.ref 90) [Value.ref _]) _ _ _); k_dflt (refine' AmbR.use (pop_raises _ _ _ _ _ _ ?zqap) ?zqB ?zqF ?zqX (news_stack ?zqN ?zqe1 ?zqe2 ?zqe3) ?zqT ?zqhk ?zqhd ?zqhu ?_; walk_at "sd ae"; walk_at "sd pt"); walk_at "sd r")) | fail)
  k_with "call ref" => (first | ((k_here; (with_reducible show wpAny _ _ (call (Value.ref 97) [Value.ref _, Value.int _ _]) _ _ _); k_dflt (refine' Amb.use (at_ok _ _ _ _ _ _ ?zqap ?zqhl ?zqh0 ?zqh1 ?zqhv) ?zqB ?zqF ?zqX (news_stack ?zqN ?zqe1 ?zqe2 ?zqe3) ?zqT ?zqhk ?zqhd ?zqhu ?_; walk_at "sd ae"; walk_at "sd h"; (case zqhv => assumption); walk_at "sd pt"); rintro zqr' zqnews' zqh' zqtk' zqF' zqN' ⟨zqe1', zqe2'⟩; subst zqe1' zqe2'; (try dsimp only [stackLed, stackEs] at zqN'); (try k_sweep))) | fail)
  k_with "call ref" => (first | ((k_here; (with_reducible show wpAny _ _ (call (Value.ref 97) [Value.ref _, Value.int _ _]) _ _ _); k_dflt (refine' AmbR.use (at_range _ _ _ _ _ _ ?zqap ?zqh0) ?zqB ?zqF ?zqX (news_stack ?zqN ?zqe1 ?zqe2 ?zqe3) ?zqT ?zqhk ?zqhd ?zqhu ?_; walk_at "sd ae"; (case zqh0 => omega); walk_at "sd pt"); walk_at "sd r")) | fail)
  k_with "call ref" => (first | ((k_here; (with_reducible show wpAny _ _ (call (Value.ref 97) [Value.ref _, Value.int _ _]) _ _ _); k_dflt (refine' AmbR.use (at_under _ _ _ _ _ _ ?zqap ?zqhl ?zqh0 ?zqh1) ?zqB ?zqF ?zqX (news_stack ?zqN ?zqe1 ?zqe2 ?zqe3) ?zqT ?zqhk ?zqhd ?zqhu ?_; walk_at "sd ae"; walk_at "sd h"; walk_at "sd pt"); walk_at "sd r")) | fail)
  k_with "call ref" => (first | ((k_here; (with_reducible show wpAny _ _ (call (Value.ref 104) [Value.ref _, Value.int _ _]) _ _ _); k_dflt (refine' AmbR.use (top_range _ _ _ _ _ _ ?zqap ?zqh0) ?zqB ?zqF ?zqX (news_stack ?zqN ?zqe1 ?zqe2 ?zqe3) ?zqT ?zqhk ?zqhd ?zqhu ?_; walk_at "sd ae"; (case zqh0 => omega); walk_at "sd pt"); walk_at "sd r")) | fail)
  k_with "call ref" => (first | ((k_here; (with_reducible show wpAny _ _ (call (Value.ref 104) [Value.ref _, Value.int _ _]) _ _ _); k_dflt (refine' AmbR.use (top_under _ _ _ _ _ _ ?zqap ?zqhl ?zqh0 ?zqh1) ?zqB ?zqF ?zqX (news_stack ?zqN ?zqe1 ?zqe2 ?zqe3) ?zqT ?zqhk ?zqhd ?zqhu ?_; walk_at "sd ae"; walk_at "sd h"; walk_at "sd pt"); walk_at "sd r")) | fail)
  k_with "call ref" => (first | ((k_here; (with_reducible show wpAny _ _ (call (Value.ref 111) [Value.ref _, Value.int _ _]) _ _ _); k_dflt (refine' AmbR.use (take_range _ _ _ _ _ _ ?zqap ?zqh0) ?zqB ?zqF ?zqX (news_stack ?zqN ?zqe1 ?zqe2 ?zqe3) ?zqT ?zqhk ?zqhd ?zqhu ?_; walk_at "sd ae"; (case zqh0 => omega); walk_at "sd pt"); walk_at "sd r")) | fail)
  k_with "call ref" => (first | ((k_here; (with_reducible show wpAny _ _ (call (Value.ref 111) [Value.ref _, Value.int _ _]) _ _ _); k_dflt (refine' AmbR.use (take_under _ _ _ _ _ _ ?zqap ?zqhl ?zqh0 ?zqh1) ?zqB ?zqF ?zqX (news_stack ?zqN ?zqe1 ?zqe2 ?zqe3) ?zqT ?zqhk ?zqhd ?zqhu ?_; walk_at "sd ae"; walk_at "sd h"; walk_at "sd pt"); walk_at "sd r")) | fail)
  k_with "call ref" => (first | ((k_here; (with_reducible show wpAny _ _ (call (Value.ref 104) [Value.ref _, Value.int _ _]) _ _ _); k_dflt (refine' Amb.use (top_ok _ _ _ _ _ _ ?zqap ?zqhl ?zqh0 ?zqh1) ?zqB ?zqF ?zqX (news_stack ?zqN ?zqe1 ?zqe2 ?zqe3) ?zqT ?zqhk ?zqhd ?zqhu ?_; walk_at "sd ae"; walk_at "sd h"; walk_at "sd pt"); rintro zqr' zqnews' zqh' zqtk' zqF' zqN' ⟨zqD', zqn', zqe1', zqe2', zql1⟩; subst zqe1' zqe2'; (try dsimp only [stackLed, stackEs] at zqN'); (try k_sweep))) | fail)
  k_with "call ref" => (first | ((k_here; (with_reducible show wpAny _ _ (call (Value.ref 111) [Value.ref _, Value.int _ _]) _ _ _); k_dflt (refine' Amb.use (take_ok _ _ _ _ _ _ ?zqap ?zqhl ?zqh0 ?zqh1) ?zqB ?zqF ?zqX (news_stack ?zqN ?zqe1 ?zqe2 ?zqe3) ?zqT ?zqhk ?zqhd ?zqhu ?_; walk_at "sd ae"; walk_at "sd h"; walk_at "sd pt"); rintro zqr' zqnews' zqh' zqtk' zqF' zqN' ⟨zqD', zqn1', zqD2', zqn', zqe1', zqe2', ⟨zqb1, zqb2, zqb3, zqb4, zqb5, zqb6⟩, zql1, zql3, zql4, zql5⟩; subst zqe1' zqe2'; (try dsimp only [stackLed, stackEs] at zqN'); (replace zqb1 := Neq.mk zqb1); (replace zqb2 := Neq.mk zqb2); (replace zqb3 := Neq.mk zqb3); (replace zql3 := Neq.mk zql3); (replace zql4 := Neq.mk zql4); (try k_sweep))) | fail)
  k_with "call ref" => (first | ((k_here; (with_reducible show wpAny _ _ (call (Value.ref 118) [Value.ref _, Value.int _ _]) _ _ _); k_dflt (refine' Amb.use (cut_ok _ _ _ _ _ _ ?zqap ?zqhl ?zqh0) ?zqB ?zqF ?zqX (news_stack ?zqN ?zqe1 ?zqe2 ?zqe3) ?zqT ?zqhk ?zqhd ?zqhu ?_; walk_at "sd ae"; (case zqhl => lcg_off); (case zqh0 => lcg_off); walk_at "sd pt"); rintro zqr' zqnews' zqh' zqtk' zqF' zqN' ⟨zqe1', zqD', zqn', zqe2', ⟨zqb1, zqb2, zqb3, zqb4, zqb5, zqb6⟩, zql1⟩; subst zqe1' zqe2'; (try dsimp only [stackLed, stackEs] at zqN'); (replace zqb1 := Neq.mk zqb1); (replace zqb2 := Neq.mk zqb2); (replace zqb3 := Neq.mk zqb3); (try k_sweep))) | fail)
  k_with "call ref" => (first | ((k_here; (with_reducible show wpAny _ _ (call (Value.ref 125) [Value.ref _, Value.int _ _, Value.int _ _]) _ _ _); k_dflt (refine' AmbR.use (rolled_range _ _ _ _ _ _ ?zqap ?zqh0) ?zqB ?zqF ?zqX (news_stack ?zqN ?zqe1 ?zqe2 ?zqe3) ?zqT ?zqhk ?zqhd ?zqhu ?_; walk_at "sd ae"; (case zqh0 => omega); walk_at "sd pt"); walk_at "sd r")) | fail)
  k_with "call ref" => (first | ((k_here; (with_reducible show wpAny _ _ (call (Value.ref 125) [Value.ref _, Value.int _ _, Value.int _ _]) _ _ _); k_dflt (refine' AmbR.use (rolled_under _ _ _ _ _ _ ?zqap ?zqhl ?zqh0 ?zqh1) ?zqB ?zqF ?zqX (news_stack ?zqN ?zqe1 ?zqe2 ?zqe3) ?zqT ?zqhk ?zqhd ?zqhu ?_; walk_at "sd ae"; walk_at "sd h"; walk_at "sd pt"); walk_at "sd r")) | fail)
  k_with "call ref" => (first | ((k_here; (with_reducible show wpAny _ _ (call (Value.ref 125) [Value.ref _, Value.int _ _, Value.int _ _]) _ _ _); k_dflt (refine' Amb.use (rolled_ok _ _ _ _ _ _ ?zqap ?zqhl ?zqh0 ?zqh1) ?zqB ?zqF ?zqX (news_stack ?zqN ?zqe1 ?zqe2 ?zqe3) ?zqT ?zqhk ?zqhd ?zqhu ?_; walk_at "sd ae"; walk_at "sd h"; walk_at "sd pt"); rintro zqr' zqnews' zqh' zqtk' zqF' zqN' ⟨zqe1', zqD', zqn', zqe2', ⟨zqb1, zqb2, zqb3, zqb4, zqb5, zqb6⟩, zql1⟩; subst zqe1' zqe2'; (try dsimp only [stackLed, stackEs] at zqN'); (replace zqb1 := Neq.mk zqb1); (replace zqb2 := Neq.mk zqb2); (replace zqb3 := Neq.mk zqb3); (try k_sweep))) | fail)
  k_with "call ref" => (first | ((k_here; (with_reducible show wpAny _ _ (call (Value.ref 146) [Value.ref _, Value.ref _]) _ _ _); k_dflt (refine' Amb.use (putBack_ok _ _ _ _ _ _ ?zqap ?zqhl ?zqhl2 ?zqhs) ?zqB ?zqF ?zqX (news_stack ?zqN ?zqe1 ?zqe2 ?zqe3) ?zqT ?zqhk ?zqhd ?zqhu ?_; walk_at "sd ae"; (case zqhs => k_mem); (case zqhl => lcg_off); (case zqhl2 => lcg_off); walk_at "sd pt"); rintro zqr' zqnews' zqh' zqtk' zqF' zqN' ⟨zqe1', zqD', zqn', zqe2', ⟨zqb1, zqb2, zqb3, zqb4, zqb5, zqb6⟩, zql1⟩; subst zqe1' zqe2'; (try dsimp only [stackLed, stackEs] at zqN'); (replace zqb1 := Neq.mk zqb1); (replace zqb2 := Neq.mk zqb2); (replace zqb3 := Neq.mk zqb3); (try k_sweep))) | fail)
  k_with "call ref" => (first | ((k_here; (with_reducible show wpAny _ _ (call (Value.ref 83) [Value.ref _, Value.ref _]) _ _ _); k_dflt (refine' Amb.use (pushAll_ok _ _ _ _ _ _ ?zqap ?zqhl ?zqhm ?zqhs) ?zqB ?zqF ?zqX (news_stack ?zqN ?zqe1 ?zqe2 ?zqe3) ?zqT ?zqhk ?zqhd ?zqhu ?_; walk_at "sd ae"; (case zqhs => k_mem); (case zqhl => lcg_off); (case zqhm => omega); walk_at "sd pt"); rintro zqr' zqnews' zqh' zqtk' zqF' zqN' ⟨zqe1', zqn', zqe2'⟩; subst zqe1' zqe2'; (try dsimp only [stackLed, stackEs] at zqN'); (try k_sweep))) | fail)
  k_with "call ref" => (first | ((k_here; (with_reducible show wpAny _ _ (call (Value.ref 83) [Value.ref _, Value.ref _]) _ _ _); k_dflt (refine' AmbR.use (pushAll_raises _ _ _ _ _ _ ?zqap ?zqhD ?zqhl ?zqhm ?zqhv) ?zqB ?zqF ?zqX (news_stack ?zqN ?zqe1 ?zqe2 ?zqe3) ?zqT ?zqhk ?zqhd ?zqhu ?_; walk_at "sd ae"; (case zqhD => k_mem); (case zqhl => lcg_off); (case zqhm => lcg_off); (case zqhv => lcg_off); walk_at "sd pt"); walk_at "sd r")) | fail)
  k_with "call ref" => (first | ((k_here; (with_reducible show wpAny _ _ (call (Value.ref 222) [Value.ref _, Value.int _ _]) _ _ _); k_dflt (refine' Amb.use (turned_spec _ _ _ _ _ _ ?zqhm ?zqhI ?zqhl) ?zqB ?zqF ?zqX ?zqN ?zqT ?zqhk ?zqhd ?zqhu ?_; walk_at "sd a"; (case zqhm => k_mem); (case zqhI => walk_at "mine ints"); (case zqhl => lcg_off); walk_at "sd t"); rintro zqr' zqnews' zqh' zqtk' zqF' zqN' ⟨zqD', zqn', zqe1', zqe2', zql1⟩; subst zqe1' zqe2'; (try k_sweep))) | fail)
  trivial
theorem out_nextX {M : Model} {A : Around} {E : Value → Shared → Prop} {s' : Shared} {base g g₂ : Heap} {outer : List Env} {L a e dd : Addr} {m : Str → Option Value} {name : Str} {scope : Scope} {cd cls : Value} {cl : List (Str × Addr)} {Q : Unit → Shared → Prop} {news : List (Addr × Obj)}
    (K : Below A base outer g) (F : Fr g L g₂ m) (R : OutOf base g₂ (envX name scope L a cd cl :: outer) e cls dd news s'.heap) (hsm : g₂.UpToSlots s'.heap) (hQ : ∀ h', OutOf base g outer e cls dd news h' → g.UpToSlots h' → Q () { s' with heap := h' }) :
    wpAny M (A.deeper (envX name scope L a cd cl)) (leaving (envX name scope L a cd cl) (.ref e)) Q E s' := by
  w_top off
  obtain ⟨B, hB, hBG, hl, f1, f2, f3, f4⟩ := R
  refine w_leave_next (Around.frames_deeper K.stack) f3 rfl f1 f2 f4 fun h' k => ?_
  obtain ⟨_, _, fr⟩ := k.frames
  exact hQ h' ⟨B, hB, fun b o q nm => hBG b o (F.keep b o q) (fun hm => by
    rcases frame_mem (env := envX name scope L a cd cl) rfl hm with z | z
    · rw [z, kts_self F] at q
      cases q
    · exact nm z), fun q hq => ⟨(hl q hq).1, kts_none F.keep (hl q hq).2.1, (hl q hq).2.2⟩, k.stays, f2, fr, k.way⟩ ((Heap.UpToSlots.of_keeps F.keep).trans (hsm.trans k.slots))
theorem said_M20_7 : True := by
  k_with "leaving ref" => (first | ((k_here; k_dflt (refine' out_nextX ?zqB ?zqF ?zqR ?zqU ?_; (case zqB => assumption); (case zqF => assumption); (case zqR => assumption); (case zqU => assumption)); intro zqh' zqR' zqU')) | fail)
  k_with "leaving ref" => (first | ((k_here; k_dflt (refine' out_next ?zqB ?zqF ?zqR ?zqU ?_; (case zqB => assumption); (case zqF => assumption); (case zqR => assumption); (case zqU => assumption)); intro zqh' zqR' zqU')) | fail)
  k_with "eval Lambda" => (first | ((k_here; k_dflt (refine' kla_eval ?zqd0 ?_; (case zqd0 => exact rfl)); k_dflt (refine' lam_any ?zqF ?zqN ?zqT ?zqC ?zqcd ?zqU ?zqt ?zqn ?zqcl ?zqq ?_; (case zqF => k_asm); (case zqN => k_asm); (case zqT => k_asm); (case zqcd => exact rfl); (case zqC => kn_code); (case zqU => k_updF); (case zqt => assumption); (case zqn => tb_rel); (case zqcl => exact rfl); (case zqq => rfl)); intro zqf' zqc' zqoc' zqvs' zqt' zqct' zqh' zqtk' zqps' zqF' zqN' zqd1' zqd2' zqhT' zql1 zql3 zqhne'; (replace zql3 := Neq.mk (Nat.ne_of_lt zql3)); (try dsimp only at zqN'))) | fail)
  trivial
/-- b is told, and the ledger stands -/
def TellAll (b : Array UInt8) (news : List (Addr × Obj)) (v : Value) (news' : List (Addr × Obj)) : Prop := (∃ u, v = .bytes b u) ∧ ∀ q ∈ news, q ∈ news'
theorem told_led {w : World} {p : Program} {loose : List Str} {mean : ExcName → Option Value} {mg mb : Str → Option Value} {lv : Nat} {lam : Addr} {news : List (Addr × Obj)} {nm ql : Str} {prm : Arguments} {bdy : PySem.Expr} {scp : Scope} {clo : List (Str × Addr)} {pmv ctv : Value} {cda : Addr}
    (b : Array UInt8) (hlam : (lam, kla_obj nm ql prm bdy scp clo pmv cda ctv) ∈ news) (C : AmbR lv w p loose mean mg mb lam [] news (TellAll b news)) : AmbT (lv + 1) w p loose mean mg mb 215 [.ref lam] news (TellAll b news) :=
  told_raises w p loose mean mg mb hlam C fun v n' h => by obtain ⟨⟨u, rfl⟩, _⟩ := h; rfl
theorem told_use {w : World} {p : Program} {loose : List Str} {mean : ExcName → Option Value} {mg mb : Str → Option Value} {lv : Nat} {lam : Addr} {news : List (Addr × Obj)} {nm ql : Str} {prm : Arguments} {bdy : PySem.Expr} {scp : Scope} {clo : List (Str × Addr)} {pmv ctv : Value} {cda : Addr}
    {dp un : Nat} {gd : Option (List Code)} {cn : Str} {cs : Scope} {a : Addr} {ccd : Value} {cl : List (Str × Addr)} {outer : List Env} {A₀ : Around} {base h₀ : Heap} {L : Addr} {m : Str → Option Value} {s : Shared} {Q E : Value → Shared → Prop} (b : Array UInt8)
    (B : Below A₀ base outer h₀) (F : Fr h₀ L s.heap m) (X : (Mine.hd.heap_1 w.params).In base) (N : News h₀ L s.heap news) (T : Top p loose mean mg mb base) (hk : cs.kind = .function) (hd : dp + 20 * (lv + 1) < recursionLimit) (hu : un + 200 * (lv + 1) < cLine)
    (hlam : (lam, kla_obj nm ql prm bdy scp clo pmv cda ctv) ∈ news) (C : AmbR lv w p loose mean mg mb lam [] news (TellAll b news))
    (k : ∀ u h' tk' h₀', KtsTurn (outer.filterMap (·.frame)) h₀ h₀' → Below A₀ base outer h₀' → (Mine.hd.heap_1 w.params).In h₀' → Top p loose mean mg mb h₀' → Fr h₀' L h' m → News h₀' L h' news → Q (.bytes b u) { s with heap := h', toks := tk' }) :
    AtTold (wpAny (model PySem.Challenge.rw_nt0483_01.row.prog w) (ktrTop dp un gd cn cs L a ccd cl outer) (call (.ref 215) [.ref lam]) Q E s) :=
  AmbT.use (told_led b hlam C) B F X N T hk hd hu fun r news' h' tk' h₀' T' B' F' N' hr => by
    obtain ⟨⟨u, rfl⟩, hs⟩ := hr
    exact k u h' tk' h₀' T' B' (X.keeps B'.stays) (T.keeps B'.stays) F' (news_sub N' hs)
/-- which five stand -/
def HeadMark (_dk _dc _ow _ia _idd _xi : Addr) : Prop := True
/-- the ledger at a deed's end -/
theorem deed_fin {w : World} {dk dc ow ia idd xi tl : Addr} {oxi : Obj} {mixed : Int} {t1 t2 : Tok} {h1 h2 : Int} {s1 s2 s3 : Tok} {most turn : Int} {ns dcs : List Int} {ps : Array Value} {o : Obj} {cvs vos ts : List Value} {n n2 n3 : Nat} {pool news r r0 r1 r2 r3 r4 r5 : List (Addr × Obj)} {h₀ h : Heap} {L : Addr} {P : Prop}
    (_ : HeadMark dk dc ow ia idd xi) (N : News h₀ L h news) (e : Ext (xi, oxi) news r) (e0 : Ext (224, tabObj ps) r r0) (e1 : Ext (dk, o) r0 r1) (e2 : Ext (dc, W.listOf cvs.toArray n) r1 r2) (e3 : Ext (ow, W.listOf vos.toArray n2) r2 r3) (e4 : Ext (ia, instObj 149 idd) r3 r4) (e5 : Ext (idd, dictOf (stackEs h1 h2 s1 s2 s3 most tl) 2) r4 r5) (e6 : Ext (tl, W.listOf ts.toArray n3) r5 pool)
    (hod : o.IsDictOf (strKind PySem.Challenge.rw_nt0483_01.row.prog w) (deckKvs dc mixed t1 turn t2)) (hI : IntsAre cvs dcs) (hlen : dcs.length ≤ 16) (hB : TableOk ps pool) (hH : Heads dk dc ow ia idd tl) (hO : Off7 dk dc ow ia idd tl pool) (hX : Own xi dk dc ow ia idd tl pool)
    (hV : IntsAre vos ns) (hT : ThingsAre pool ts ns) (hz : (ns.length : Int) ≤ most)
    (k : ∀ nx, News h₀ L h ((xi, oxi) :: nx) → (∀ p ∈ nx, p.1 ≠ xi) → DeedSt w dk dc ow ia idd mixed t1 h1 h2 s1 s2 s3 most turn ns nx → P) : P := by
  have d := e.news (l' := []) N
  have d0 := e0.news (l' := [(xi, oxi)]) d
  have d1 := e1.news (l' := [(xi, oxi), (224, tabObj ps)]) d0
  have d2 := e2.news (l' := [(xi, oxi), (224, tabObj ps), (dk, o)]) d1
  have d3 := e3.news (l' := [(xi, oxi), (224, tabObj ps), (dk, o), (dc, W.listOf cvs.toArray n)]) d2
  have d4 := e4.news (l' := [(xi, oxi), (224, tabObj ps), (dk, o), (dc, W.listOf cvs.toArray n), (ow, W.listOf vos.toArray n2)]) d3
  have d5 := e5.news (l' := [(xi, oxi), (224, tabObj ps), (dk, o), (dc, W.listOf cvs.toArray n), (ow, W.listOf vos.toArray n2), (ia, instObj 149 idd)]) d4
  have d6 := e6.news (l' := [(xi, oxi), (224, tabObj ps), (dk, o), (dc, W.listOf cvs.toArray n), (ow, W.listOf vos.toArray n2), (ia, instObj 149 idd), (idd, dictOf (stackEs h1 h2 s1 s2 s3 most tl) 2)]) d5
  refine k _ d6 ?_ ⟨ps, o, cvs, dcs, t2, n, vos, n2, tl, ts, n3, pool, rfl, hod, hI, hlen, hV, hT, hB, hH, hO, hz⟩
  exact List.forall_mem_cons.mpr ⟨hX.w0.ne', List.forall_mem_cons.mpr ⟨hX.w1.ne', List.forall_mem_cons.mpr ⟨hX.w2.ne', List.forall_mem_cons.mpr ⟨hX.w3.ne', List.forall_mem_cons.mpr ⟨hX.w4.ne', List.forall_mem_cons.mpr ⟨hX.w5.ne', List.forall_mem_cons.mpr ⟨hX.w6.ne', hX.w7⟩⟩⟩⟩⟩⟩⟩
theorem said_M20_8 : True := by
  k_with "mine fin" => (first | ((refine' deed_fin (by assumption) ?zqN ?zqe ?zqe0 ?zqe1 ?zqe2 ?zqe3 ?zqe4 ?zqe5 ?zqe6 ?zqhod ?zqhI ?zqhlen ?zqhB ?zqhH ?zqhO ?zqhX ?_ ?_ ?_ ?_; (case zqN => k_asm); (case zqe => tb_start); (case zqe0 => tb_start); walk_at "sd e"; (case zqe4 => tb_start); (case zqe5 => tb_start); (case zqe6 => tb_start); (case zqhod => k_asm); (case zqhI => k_asm); (case zqhlen => lcg_off); (case zqhB => exact TableOk.mono (by assumption) (by tb_rel)); (case zqhH => constructor <;> first | assumption | (constructor; k_ne)); (case zqhO => constructor <;> k_all); (case zqhX => constructor <;> first | with_reducible assumption | (constructor; k_ne) | k_all); rotate_left)) | fail)
  k_with "told over" => (first | ((k_dflt (refine' told_use (lv := 3) bOver ?zqB ?zqF ?zqX ?zqN ?zqT ?zqhk ?zqhd ?zqhu ?zqhlam ?_ ?_; walk_at "sd a"; walk_at "sd t"; (case zqhlam => k_mem)))) | fail)
  k_with "told under" => (first | ((k_dflt (refine' told_use (lv := 3) bUnder ?zqB ?zqF ?zqX ?zqN ?zqT ?zqhk ?zqhd ?zqhu ?zqhlam ?_ ?_; walk_at "sd a"; walk_at "sd t"; (case zqhlam => k_mem)))) | fail)
  k_with "told range" => (first | ((k_dflt (refine' told_use (lv := 3) bRange ?zqB ?zqF ?zqX ?zqN ?zqT ?zqhk ?zqhd ?zqhu ?zqhlam ?_ ?_; walk_at "sd a"; walk_at "sd t"; (case zqhlam => k_mem)))) | fail)
  k_with "told mark" => (first | ((k_dflt (refine' told_use (lv := 3) bMark ?zqB ?zqF ?zqX ?zqN ?zqT ?zqhk ?zqhd ?zqhu ?zqhlam ?_ ?_; walk_at "sd a"; walk_at "sd t"; (case zqhlam => k_mem)))) | fail)
  k_with "mine lam" => (first | ((refine wpAny_call ?_; k_dflt (refine' kla_code ?zqk1 ?zqk2 ?zqk3 ?zqk4 ?zqk5 ?zqkA ?zqkF ?zqkK ?zqk6 ?zqk7 ?zqk8 ?zqk9 ?zqkB ?_ ?zqc2 ?zqc3 ?zqc4 ?zqc5; (case zqkA => exact rfl); (case zqkF => exact rfl); (case zqkK => assumption); (case zqk1 => k_asm); (case zqk2 => k_asm); (case zqk3 => k_asm); (case zqk4 => k_asm); (case zqk5 => k_asm); (case zqk6 => k_mem); (case zqk7 => exact codeRec_news (by k_asm) (by k_mem) (by assumption) (by assumption)); (case zqk8 => ktr_room); (case zqk9 => exact rfl); (case zqc5 => decide); (case zqkB => exact locs rfl); (case zqc2 => exact rfl); (case zqc3 => exact rfl); (case zqc4 => exact rfl); k_whole; intro zqg' zqL' zqh' zqFG' zqF' zqN' zqB' zqX' zqT'; (try dsimp only); (try k_lift zqB'); (try k_fold)))) | fail)
  k_with "callWith ref" => (first | ((k_here; k_dflt (first | (refine' callWith_K ?zqk1 ?zqk2 ?_; (case zqk1 => k_asm); (case zqk2 => k_is); k_whole) | (refine' callWith_K0 ?zqk1 ?zqk2 ?_; (case zqk1 => k_in); (case zqk2 => k_is); k_whole)))) | fail)
  k_with "call ref" => (first | ((k_here; (with_reducible show wpAny _ _ (call _ (_ ++ _)) _ _ _); dsimp only [List.nil_append, List.cons_append])) | fail)
  trivial
section
set_option maxRecDepth 100000 in
set_option maxHeartbeats 8000000 in
theorem way1 (w : World) (p : Program) (loose : List Str) (mean : ExcName → Option Value) (mg mb : Str → Option Value)
    {dk dc ow ia idd tl xi : Addr} {oxi : Obj} {mixed : Int} {t1 t2 : Tok} {h1 h2 : Int} {s1 s2 s3 : Tok} {most turn : Int} {ns dcs : List Int} {tm tw : Tok} {ps : Array Value} {o ox : Obj} {cvs vos ts : List Value} {n n2 n3 : Nat} {pool : List (Addr × Obj)}
    {ck ci cb cm cn cs : Addr} {many way : Int} {isl : Bool} {due : Value} {xv : Option Value}
    (hw0 : 1 ≤ way) (hw1 : way < 3)
    (hod : o.IsDictOf (strKind PySem.Challenge.rw_nt0483_01.row.prog w) (deckKvs dc mixed t1 turn t2)) (hI : IntsAre cvs dcs) (hlen : dcs.length ≤ 16) (hV : IntsAre vos ns) (hTh : ThingsAre pool ts ns) (hTb : TableOk ps pool)
    (hH : Heads dk dc ow ia idd tl) (hO : Off7 dk dc ow ia idd tl pool) (hsz : (ns.length : Int) ≤ most) (hC : CellsIn pool ck ci cm dk ia many) (hXi : Own xi dk dc ow ia idd tl pool) (hx : ox.data = .cell xv) (hW : Own cn dk dc ow ia idd tl pool) (hcx : Neq cn xi)
    (hm0 : 3 ≤ most) (hm1 : most ≤ 8) (ht0 : 0 ≤ turn) (ht1 : turn ≤ 900) :
    WayAmb 4 w p loose mean mg mb (deedCl ck ci cb cm cn cs) ow most way isl due tm tw ((cn, ox) :: (xi, oxi) :: deedLed ps dk dc ow ia idd tl o cvs vos ts n n2 n3 h1 h2 s1 s2 s3 most pool)
      (fun nx => ∃ nx' turn' ns', nx = (xi, oxi) :: nx' ∧ (∀ p ∈ nx', p.1 ≠ xi) ∧ turn ≤ turn' ∧ turn' ≤ turn + 8 ∧ DeedSt w dk dc ow ia idd mixed t1 h1 h2 s1 s2 s3 most turn' ns' nx') := by
  w_top off
  unfold WayAmb
  have eS : deedScope w = deedScope w := rfl
  conv at eS => rhs; whnf
  have eB : deedTail w = deedTail w := rfl
  conv at eB => rhs; whnf
  rw [eS, eB]
  clear eS eB
  k_fill
  intro dp un gd outer A₀ base h₀ L s Q E B F X₀ N T₀ CH hd hu hret
  have X := X₀.keeps B.stays
  have T := T₀.keeps B.stays
  obtain ⟨g1, g2, g3, g4, g5, g6, g7, g8, g9, g10, g11, g12, g13, g14, g15, g16, g17, g18, g19, g20, g21⟩ := hH
  obtain ⟨o0, o1, o2, o3, o4, o5, o6⟩ := hO
  obtain ⟨w0, w1, w2, w3, w4, w5, w6, w7⟩ := hW
  obtain ⟨⟨ok, hk1, hk2⟩, ⟨oi, hi1, hi2⟩, ⟨om, tmn, hm2, hm3⟩⟩ := hC
  obtain ⟨z0, z1, z2, z3, z4, z5, z6, z7⟩ := hXi
  have HM : HeadMark dk dc ow ia idd xi := True.intro
  have hvl := hV.length
  have htl := hTh.length
  unfold deedLed stackLed stackEs at *
  unfold deedCl
  have he0 : (way == 0) = false := beq_eq_false_iff_ne.mpr (by omega)
  k_steps
  · walk_at "told over"
    · intro dp un gd cn cs a ccd cl outer A₀ base h₀ L m s Q E B F X N T hk hd hu hret
      walk_at "mine lam"
      k_steps
      rename OutOf _ _ (envX cn cs _ _ _ _ :: _) _ _ _ _ _ => R'
      exact hret _ _ _ _ _ _ _ _ _ (by assumption) R' (by assumption) ⟨by assumption, by tb_rel⟩
    · intro u h' tk' h₀' T' B' X' P' F' N'
      k_steps
      show Q (.ret (.bool true)) _
      walk_at "mine fin"
      · exact hV
      · exact hTh.mono (by tb_rel)
      · omega
      · exact fun nx Nx Ox Sx => hret _ _ _ _ ((xi, oxi) :: nx) T' B' F' Nx ⟨nx, _, _, rfl, Ox, by omega, by omega, Sx⟩
  · try dsimp only
    walk_at "mine fin"
    · exact ints_snoc hV _ _
    · exact (hTh.mono (by tb_rel)).append (.cons ⟨_, _, _, _, rfl, by k_mem, by k_mem, by assumption⟩ .nil)
    · lcg_off
    · exact fun nx Nx Ox Sx => hret _ _ _ _ ((xi, oxi) :: nx) .refl (by assumption) (by assumption) Nx ⟨nx, _, _, rfl, Ox, by omega, by omega, Sx⟩
end
section
set_option maxRecDepth 100000 in
set_option maxHeartbeats 8000000 in
theorem way3_none (w : World) (p : Program) (loose : List Str) (mean : ExcName → Option Value) (mg mb : Str → Option Value)
    {dk dc ow ia idd tl xi : Addr} {oxi : Obj} {mixed : Int} {t1 t2 : Tok} {h1 h2 : Int} {s1 s2 s3 : Tok} {most turn : Int} {ns dcs : List Int} {tm tw : Tok} {ps : Array Value} {o : Obj} {cvs vos ts : List Value} {n n2 n3 : Nat} {pool : List (Addr × Obj)}
    {ck ci cb cm cn cs : Addr} {many : Int} {isl : Bool} {due : Value}
    (hod : o.IsDictOf (strKind PySem.Challenge.rw_nt0483_01.row.prog w) (deckKvs dc mixed t1 turn t2)) (hI : IntsAre cvs dcs) (hlen : dcs.length ≤ 16) (hV : IntsAre vos ns) (hTh : ThingsAre pool ts ns) (hTb : TableOk ps pool)
    (hH : Heads dk dc ow ia idd tl) (hO : Off7 dk dc ow ia idd tl pool) (hsz : (ns.length : Int) ≤ most) (hC : CellsIn pool ck ci cm dk ia many) (hXi : Own xi dk dc ow ia idd tl pool)
    (hm0 : 3 ≤ most) (hm1 : most ≤ 8) (ht0 : 0 ≤ turn) (ht1 : turn ≤ 900) (hns : ns = []) :
    WayAmb 4 w p loose mean mg mb (deedCl ck ci cb cm cn cs) ow most 3 isl due tm tw ((xi, oxi) :: deedLed ps dk dc ow ia idd tl o cvs vos ts n n2 n3 h1 h2 s1 s2 s3 most pool)
      (fun nx => ∃ nx' turn' ns', nx = (xi, oxi) :: nx' ∧ (∀ p ∈ nx', p.1 ≠ xi) ∧ turn ≤ turn' ∧ turn' ≤ turn + 8 ∧ DeedSt w dk dc ow ia idd mixed t1 h1 h2 s1 s2 s3 most turn' ns' nx') := by
  w_top off
  unfold WayAmb
  have eS : deedScope w = deedScope w := rfl
  conv at eS => rhs; whnf
  have eB : deedTail w = deedTail w := rfl
  conv at eB => rhs; whnf
  rw [eS, eB]
  clear eS eB
  k_fill
  intro dp un gd outer A₀ base h₀ L s Q E B F X₀ N T₀ CH hd hu hret
  have X := X₀.keeps B.stays
  have T := T₀.keeps B.stays
  obtain ⟨g1, g2, g3, g4, g5, g6, g7, g8, g9, g10, g11, g12, g13, g14, g15, g16, g17, g18, g19, g20, g21⟩ := hH
  obtain ⟨o0, o1, o2, o3, o4, o5, o6⟩ := hO
  obtain ⟨⟨ok, hk1, hk2⟩, ⟨oi, hi1, hi2⟩, ⟨om, tmn, hm2, hm3⟩⟩ := hC
  obtain ⟨z0, z1, z2, z3, z4, z5, z6, z7⟩ := hXi
  have HM : HeadMark dk dc ow ia idd xi := True.intro
  have hvl := hV.length
  have htl := hTh.length
  unfold deedLed stackLed stackEs at *
  unfold deedCl
  subst hns
  obtain rfl := List.eq_nil_of_length_eq_zero (hvl.trans rfl)
  obtain rfl := List.eq_nil_of_length_eq_zero (htl.trans rfl)
  k_steps
  walk_at "told under"
  · intro dp un gd cn cs a ccd cl outer A₀ base h₀ L m s Q E B F X N T hk hd hu hret
    walk_at "mine lam"
    k_steps
    rename OutOf _ _ (envX cn cs _ _ _ _ :: _) _ _ _ _ _ => R'
    exact hret _ _ _ _ _ _ _ _ _ (by assumption) R' (by assumption) ⟨by assumption, by tb_rel⟩
  · intro u h' tk' h₀' T' B' X' P' F' N'
    k_steps
    show Q (.ret (.bool true)) _
    walk_at "mine fin"
    · exact hV
    · exact hTh.mono (by tb_rel)
    · assumption
    · exact fun nx Nx Ox Sx => hret _ _ _ _ ((xi, oxi) :: nx) T' B' F' Nx ⟨nx, _, _, rfl, Ox, by omega, by omega, Sx⟩
end
section
set_option maxRecDepth 100000 in
set_option maxHeartbeats 8000000 in
theorem way3_some (w : World) (p : Program) (loose : List Str) (mean : ExcName → Option Value) (mg mb : Str → Option Value)
    {dk dc ow ia idd tl xi : Addr} {oxi : Obj} {mixed : Int} {t1 t2 : Tok} {h1 h2 : Int} {s1 s2 s3 : Tok} {most turn : Int} {ns dcs : List Int} {tm tw : Tok} {ps : Array Value} {o : Obj} {cvs vos ts : List Value} {n n2 n3 : Nat} {pool : List (Addr × Obj)}
    {ck ci cb cm cn cs : Addr} {many : Int} {isl : Bool} {due : Value} {vs₀ ts₀ : List Value} {ns₀ : List Int} {k : Int} {tk : Tok} {v : Value}
    (hod : o.IsDictOf (strKind PySem.Challenge.rw_nt0483_01.row.prog w) (deckKvs dc mixed t1 turn t2)) (hI : IntsAre cvs dcs) (hlen : dcs.length ≤ 16) (hV : IntsAre vos ns) (hTh : ThingsAre pool ts ns) (hTb : TableOk ps pool)
    (hH : Heads dk dc ow ia idd tl) (hO : Off7 dk dc ow ia idd tl pool) (hsz : (ns.length : Int) ≤ most) (hC : CellsIn pool ck ci cm dk ia many) (hXi : Own xi dk dc ow ia idd tl pool)
    (hm0 : 3 ≤ most) (hm1 : most ≤ 8) (ht0 : 0 ≤ turn) (ht1 : turn ≤ 900) (hns : ns = ns₀ ++ [k]) (hvs : vos = vs₀ ++ [.int k tk]) (hts : ts = ts₀ ++ [v]) (hV0 : IntsAre vs₀ ns₀) (hT0 : ThingsAre pool ts₀ ns₀) (hk : ThingIn pool v k) :
    WayAmb 4 w p loose mean mg mb (deedCl ck ci cb cm cn cs) ow most 3 isl due tm tw ((xi, oxi) :: deedLed ps dk dc ow ia idd tl o cvs vos ts n n2 n3 h1 h2 s1 s2 s3 most pool)
      (fun nx => ∃ nx' turn' ns', nx = (xi, oxi) :: nx' ∧ (∀ p ∈ nx', p.1 ≠ xi) ∧ turn ≤ turn' ∧ turn' ≤ turn + 8 ∧ DeedSt w dk dc ow ia idd mixed t1 h1 h2 s1 s2 s3 most turn' ns' nx') := by
  w_top off
  unfold WayAmb
  have eS : deedScope w = deedScope w := rfl
  conv at eS => rhs; whnf
  have eB : deedTail w = deedTail w := rfl
  conv at eB => rhs; whnf
  rw [eS, eB]
  clear eS eB
  k_fill
  intro dp un gd outer A₀ base h₀ L s Q E B F X₀ N T₀ CH hd hu hret
  have X := X₀.keeps B.stays
  have T := T₀.keeps B.stays
  obtain ⟨g1, g2, g3, g4, g5, g6, g7, g8, g9, g10, g11, g12, g13, g14, g15, g16, g17, g18, g19, g20, g21⟩ := hH
  obtain ⟨o0, o1, o2, o3, o4, o5, o6⟩ := hO
  obtain ⟨⟨ok, hk1, hk2⟩, ⟨oi, hi1, hi2⟩, ⟨om, tmn, hm2, hm3⟩⟩ := hC
  obtain ⟨z0, z1, z2, z3, z4, z5, z6, z7⟩ := hXi
  have HM : HeadMark dk dc ow ia idd xi := True.intro
  have hvl := hV.length
  have htl := hTh.length
  unfold deedLed stackLed stackEs at *
  unfold deedCl
  subst hns hvs hts
  have hne : decide (vs₀ ++ [Value.int k tk] = []) = false := by simp
  have hne2 : decide (ns₀ ++ [k] = []) = false := by simp
  have hl1 := hT0.length
  have hl2 := hV0.length
  have hs2 : (ns₀.length : Int) + 1 ≤ most := by simpa using hsz
  have hk9 := hk
  obtain ⟨kx, kd, kes, knn, rfl, kx1, kd1, kE⟩ := hk9
  k_steps
  have e : (k == k) = true := by simp
  rw [e]
  walk_at "mine fin"
  · exact hV0
  · exact hT0.mono (by tb_rel)
  · omega
  · exact fun nx Nx Ox Sx => hret _ _ _ _ ((xi, oxi) :: nx) .refl (by assumption) (by assumption) Nx ⟨nx, _, _, rfl, Ox, by omega, by omega, Sx⟩
end
section
set_option maxRecDepth 100000 in
set_option maxHeartbeats 8000000 in
theorem way4_range (w : World) (p : Program) (loose : List Str) (mean : ExcName → Option Value) (mg mb : Str → Option Value)
    {dk dc ow ia idd tl xi : Addr} {oxi : Obj} {mixed : Int} {t1 t2 : Tok} {h1 h2 : Int} {s1 s2 s3 : Tok} {most turn : Int} {ns dcs : List Int} {tm tw : Tok} {ps : Array Value} {o : Obj} {cvs vos ts : List Value} {n n2 n3 : Nat} {pool : List (Addr × Obj)}
    {ck ci cb cm cn cs : Addr} {many : Int} {isl : Bool} {due : Value}
    (hod : o.IsDictOf (strKind PySem.Challenge.rw_nt0483_01.row.prog w) (deckKvs dc mixed t1 turn t2)) (hI : IntsAre cvs dcs) (hlen : dcs.length ≤ 16) (hV : IntsAre vos ns) (hTh : ThingsAre pool ts ns) (hTb : TableOk ps pool)
    (hH : Heads dk dc ow ia idd tl) (hO : Off7 dk dc ow ia idd tl pool) (hsz : (ns.length : Int) ≤ most) (hC : CellsIn pool ck ci cm dk ia many) (hXi : Own xi dk dc ow ia idd tl pool)
    (hm0 : 3 ≤ most) (hm1 : most ≤ 8) (ht0 : 0 ≤ turn) (ht1 : turn ≤ 900) (hmn : many < 0) :
    WayAmb 4 w p loose mean mg mb (deedCl ck ci cb cm cn cs) ow most 4 isl due tm tw ((xi, oxi) :: deedLed ps dk dc ow ia idd tl o cvs vos ts n n2 n3 h1 h2 s1 s2 s3 most pool)
      (fun nx => ∃ nx' turn' ns', nx = (xi, oxi) :: nx' ∧ (∀ p ∈ nx', p.1 ≠ xi) ∧ turn ≤ turn' ∧ turn' ≤ turn + 8 ∧ DeedSt w dk dc ow ia idd mixed t1 h1 h2 s1 s2 s3 most turn' ns' nx') := by
  w_top off
  unfold WayAmb
  have eS : deedScope w = deedScope w := rfl
  conv at eS => rhs; whnf
  have eB : deedTail w = deedTail w := rfl
  conv at eB => rhs; whnf
  rw [eS, eB]
  clear eS eB
  k_fill
  intro dp un gd outer A₀ base h₀ L s Q E B F X₀ N T₀ CH hd hu hret
  have X := X₀.keeps B.stays
  have T := T₀.keeps B.stays
  obtain ⟨g1, g2, g3, g4, g5, g6, g7, g8, g9, g10, g11, g12, g13, g14, g15, g16, g17, g18, g19, g20, g21⟩ := hH
  obtain ⟨o0, o1, o2, o3, o4, o5, o6⟩ := hO
  obtain ⟨⟨ok, hk1, hk2⟩, ⟨oi, hi1, hi2⟩, ⟨om, tmn, hm2, hm3⟩⟩ := hC
  obtain ⟨z0, z1, z2, z3, z4, z5, z6, z7⟩ := hXi
  have HM : HeadMark dk dc ow ia idd xi := True.intro
  have hvl := hV.length
  have htl := hTh.length
  unfold deedLed stackLed stackEs at *
  unfold deedCl
  k_steps
  walk_at "told range"
  · intro dp un gd cn cs a ccd cl outer A₀ base h₀ L m s Q E B F X N T hk hd hu hret
    walk_at "mine lam"
    k_steps
    rename OutOf _ _ (envX cn cs _ _ _ _ :: _) _ _ _ _ _ => R'
    exact hret _ _ _ _ _ _ _ _ _ (by assumption) R' (by assumption) ⟨by assumption, by tb_rel⟩
  · intro u h' tk' h₀' T' B' X' P' F' N'
    k_steps
    show Q (.ret (.bool true)) _
    walk_at "mine fin"
    · exact hV
    · exact hTh.mono (by tb_rel)
    · assumption
    · exact fun nx Nx Ox Sx => hret _ _ _ _ ((xi, oxi) :: nx) T' B' F' Nx ⟨nx, _, _, rfl, Ox, by omega, by omega, Sx⟩
end
section
set_option maxRecDepth 100000 in
set_option maxHeartbeats 8000000 in
theorem way4_under (w : World) (p : Program) (loose : List Str) (mean : ExcName → Option Value) (mg mb : Str → Option Value)
    {dk dc ow ia idd tl xi : Addr} {oxi : Obj} {mixed : Int} {t1 t2 : Tok} {h1 h2 : Int} {s1 s2 s3 : Tok} {most turn : Int} {ns dcs : List Int} {tm tw : Tok} {ps : Array Value} {o : Obj} {cvs vos ts : List Value} {n n2 n3 : Nat} {pool : List (Addr × Obj)}
    {ck ci cb cm cn cs : Addr} {many : Int} {isl : Bool} {due : Value}
    (hod : o.IsDictOf (strKind PySem.Challenge.rw_nt0483_01.row.prog w) (deckKvs dc mixed t1 turn t2)) (hI : IntsAre cvs dcs) (hlen : dcs.length ≤ 16) (hV : IntsAre vos ns) (hTh : ThingsAre pool ts ns) (hTb : TableOk ps pool)
    (hH : Heads dk dc ow ia idd tl) (hO : Off7 dk dc ow ia idd tl pool) (hsz : (ns.length : Int) ≤ most) (hC : CellsIn pool ck ci cm dk ia many) (hXi : Own xi dk dc ow ia idd tl pool)
    (hm0 : 3 ≤ most) (hm1 : most ≤ 8) (ht0 : 0 ≤ turn) (ht1 : turn ≤ 900) (hmn : 0 ≤ many) (hmm : (ns.length : Int) ≤ many) :
    WayAmb 4 w p loose mean mg mb (deedCl ck ci cb cm cn cs) ow most 4 isl due tm tw ((xi, oxi) :: deedLed ps dk dc ow ia idd tl o cvs vos ts n n2 n3 h1 h2 s1 s2 s3 most pool)
      (fun nx => ∃ nx' turn' ns', nx = (xi, oxi) :: nx' ∧ (∀ p ∈ nx', p.1 ≠ xi) ∧ turn ≤ turn' ∧ turn' ≤ turn + 8 ∧ DeedSt w dk dc ow ia idd mixed t1 h1 h2 s1 s2 s3 most turn' ns' nx') := by
  w_top off
  unfold WayAmb
  have eS : deedScope w = deedScope w := rfl
  conv at eS => rhs; whnf
  have eB : deedTail w = deedTail w := rfl
  conv at eB => rhs; whnf
  rw [eS, eB]
  clear eS eB
  k_fill
  intro dp un gd outer A₀ base h₀ L s Q E B F X₀ N T₀ CH hd hu hret
  have X := X₀.keeps B.stays
  have T := T₀.keeps B.stays
  obtain ⟨g1, g2, g3, g4, g5, g6, g7, g8, g9, g10, g11, g12, g13, g14, g15, g16, g17, g18, g19, g20, g21⟩ := hH
  obtain ⟨o0, o1, o2, o3, o4, o5, o6⟩ := hO
  obtain ⟨⟨ok, hk1, hk2⟩, ⟨oi, hi1, hi2⟩, ⟨om, tmn, hm2, hm3⟩⟩ := hC
  obtain ⟨z0, z1, z2, z3, z4, z5, z6, z7⟩ := hXi
  have HM : HeadMark dk dc ow ia idd xi := True.intro
  have hvl := hV.length
  have htl := hTh.length
  unfold deedLed stackLed stackEs at *
  unfold deedCl
  k_steps
  walk_at "told under"
  · intro dp un gd cn cs a ccd cl outer A₀ base h₀ L m s Q E B F X N T hk hd hu hret
    walk_at "mine lam"
    k_steps
    rename OutOf _ _ (envX cn cs _ _ _ _ :: _) _ _ _ _ _ => R'
    exact hret _ _ _ _ _ _ _ _ _ (by assumption) R' (by assumption) ⟨by assumption, by tb_rel⟩
  · intro u h' tk' h₀' T' B' X' P' F' N'
    k_steps
    show Q (.ret (.bool true)) _
    walk_at "mine fin"
    · exact hV
    · exact hTh.mono (by tb_rel)
    · assumption
    · exact fun nx Nx Ox Sx => hret _ _ _ _ ((xi, oxi) :: nx) T' B' F' Nx ⟨nx, _, _, rfl, Ox, by omega, by omega, Sx⟩
end
section
set_option maxRecDepth 100000 in
set_option maxHeartbeats 8000000 in
theorem way4_ok (w : World) (p : Program) (loose : List Str) (mean : ExcName → Option Value) (mg mb : Str → Option Value)
    {dk dc ow ia idd tl xi : Addr} {oxi : Obj} {mixed : Int} {t1 t2 : Tok} {h1 h2 : Int} {s1 s2 s3 : Tok} {most turn : Int} {ns dcs : List Int} {tm tw : Tok} {ps : Array Value} {o : Obj} {cvs vos ts : List Value} {n n2 n3 : Nat} {pool : List (Addr × Obj)}
    {ck ci cb cm cn cs : Addr} {many : Int} {isl : Bool} {due : Value} {k : Int} {v : Value}
    (hod : o.IsDictOf (strKind PySem.Challenge.rw_nt0483_01.row.prog w) (deckKvs dc mixed t1 turn t2)) (hI : IntsAre cvs dcs) (hlen : dcs.length ≤ 16) (hV : IntsAre vos ns) (hTh : ThingsAre pool ts ns) (hTb : TableOk ps pool)
    (hH : Heads dk dc ow ia idd tl) (hO : Off7 dk dc ow ia idd tl pool) (hsz : (ns.length : Int) ≤ most) (hC : CellsIn pool ck ci cm dk ia many) (hXi : Own xi dk dc ow ia idd tl pool)
    (hm0 : 3 ≤ most) (hm1 : most ≤ 8) (ht0 : 0 ≤ turn) (ht1 : turn ≤ 900) (hmn : 0 ≤ many) (hmm : many < (ns.length : Int)) (hk : ThingIn pool v k) (hv : ts[((ts.length : Int) - 1 - many).toNat]? = some v) (hn : ns[((vos.length : Int) - 1 - many).toNat]? = some k) :
    WayAmb 4 w p loose mean mg mb (deedCl ck ci cb cm cn cs) ow most 4 isl due tm tw ((xi, oxi) :: deedLed ps dk dc ow ia idd tl o cvs vos ts n n2 n3 h1 h2 s1 s2 s3 most pool)
      (fun nx => ∃ nx' turn' ns', nx = (xi, oxi) :: nx' ∧ (∀ p ∈ nx', p.1 ≠ xi) ∧ turn ≤ turn' ∧ turn' ≤ turn + 8 ∧ DeedSt w dk dc ow ia idd mixed t1 h1 h2 s1 s2 s3 most turn' ns' nx') := by
  w_top off
  unfold WayAmb
  have eS : deedScope w = deedScope w := rfl
  conv at eS => rhs; whnf
  have eB : deedTail w = deedTail w := rfl
  conv at eB => rhs; whnf
  rw [eS, eB]
  clear eS eB
  k_fill
  intro dp un gd outer A₀ base h₀ L s Q E B F X₀ N T₀ CH hd hu hret
  have X := X₀.keeps B.stays
  have T := T₀.keeps B.stays
  obtain ⟨g1, g2, g3, g4, g5, g6, g7, g8, g9, g10, g11, g12, g13, g14, g15, g16, g17, g18, g19, g20, g21⟩ := hH
  obtain ⟨o0, o1, o2, o3, o4, o5, o6⟩ := hO
  obtain ⟨⟨ok, hk1, hk2⟩, ⟨oi, hi1, hi2⟩, ⟨om, tmn, hm2, hm3⟩⟩ := hC
  obtain ⟨z0, z1, z2, z3, z4, z5, z6, z7⟩ := hXi
  have HM : HeadMark dk dc ow ia idd xi := True.intro
  have hvl := hV.length
  have htl := hTh.length
  unfold deedLed stackLed stackEs at *
  unfold deedCl
  k_steps
  have e : (k == ns.getD ((vos.length : Int) - 1 - many).toNat 0) = true := by rw [List.getD_eq_getElem?_getD, hn]; simp
  rw [e]
  walk_at "mine fin"
  · exact hV
  · exact hTh.mono (by tb_rel)
  · assumption
  · exact fun nx Nx Ox Sx => hret _ _ _ _ ((xi, oxi) :: nx) .refl (by assumption) (by assumption) Nx ⟨nx, _, _, rfl, Ox, by omega, by omega, Sx⟩
end
section
/-- to be shown behind the walk -/
def Later (P : Prop) : Prop := P
section
variable {prog : Program} {w : World} {A : Around} {E : Value → Shared → Prop} {s : Shared} {h₀ : Heap} {L a b : Addr} {m : Str → Option Value} {news : List (Addr × Obj)} {vs us : List Value} {ns ms : List Int} {Q : Value → Shared → Prop} {k j : Nat}
theorem m_same (hl : s.heap.IsList a vs.toArray) (hl' : s.heap.IsList b us.toArray) (hu : A.units + 64 < cLine) (hi : IntsAre vs ns) (hi' : IntsAre us ms) (e : Later (ns = ms)) (h : Q (.bool true) s) : wpAny (model prog w) A (compareOp .Eq (.ref a) (.ref b)) Q E s :=
  eq_intsK hl hi hl' hi' hu (by rw [show ns = ms from e]; simpa using h)
theorem m_not_other (hl : s.heap.IsList a vs.toArray) (hl' : s.heap.IsList b us.toArray) (hu : A.units + 64 < cLine) (hi : IntsAre vs ns) (hi' : IntsAre us ms) (e : Later (ns = ms)) (h : Q (.bool false) s) : wpAny (model prog w) A (compareOp .NotEq (.ref a) (.ref b)) Q E s :=
  ne_intsK hl hi hl' hi' hu (by rw [show ns = ms from e]; simpa using h)
end
theorem said_M21_1 : True := by
  k_with "mine ints" => (first | (first | with_reducible assumption | exact IntsAre.take (by with_reducible assumption) _ | exact IntsAre.drop (by with_reducible assumption) _) | fail)
  k_with "mine things" => (first | ((refine' ThingsAre.mono ?zqth ?zqsub; (case zqth => first | with_reducible assumption | exact ThingsAre.drop (by with_reducible assumption) _ | exact ThingsAre.take (by with_reducible assumption) _ | exact ThingsAre.drop (ThingsAre.take (by with_reducible assumption) _) _); (case zqsub => tb_rel))) | fail)
  k_with "FinE" => (first | (((unfold LCg.FinE); intro zqD' zqh' zqtk' zqF' zqN' zqo1'; (replace zqo1' := allNe_of (off1_ne zqo1')); (try simp only [List.nil_append, List.cons_append] at zqN'); (try dsimp only); (try k_sweep))) | fail)
  k_with "eval ListComp" => (first | ((k_here; (with_reducible show wpAny _ _ (eval (Expr.ListComp (Expr.Call _ _ _ _) [⟨Expr.Name _ _, _, [], _⟩] _ _) _) _ _ _); k_dflt (refine LCg.ListComp_U (F₀ := by k_asm) (by with_unfolding_all rfl) (by decide) (by rfl) (by decide) (by rfl) ?_))) | fail)
  k_with "CompSrc" => (first | ((k_here; k_dflt (refine LCg.CompSrc.ledger (by rfl) (by k_asm) (by k_asm) (by k_mem) (by size_fits) ?_; intro zqg'; refine' comp_numbers ?zqB ?zqX ?zqT ?zqhk ?zqhd ?zqhu ?zqhT ?zqhS ?_; (case zqB => k_asm); (case zqX => k_asm); walk_at "sd t"; (case zqhT => walk_at "mine things"); (case zqhS => exact Or.inr ⟨_, by k_mem, rfl, _, rfl⟩)); intro zqys' zqhY')) | fail)
  k_with "compareOp NotEq ref ref" => (first | ((k_here; (with_reducible show wpAny _ _ (compareOp CmpOp.NotEq (Value.ref _) (Value.ref _)) _ _ _); k_dflt (refine' m_not_other ?zqk1 ?zqk3 ?zqk5 ?zqk2 ?zqk4 ?_ ?_; (case zqk1 => exact News.isList (by k_asm) (by k_mem)); (case zqk3 => exact News.isList (by k_asm) (by k_mem)); (case zqk5 => ktr_units); (case zqk2 => walk_at "mine ints"); (case zqk4 => walk_at "mine ints")))) | fail)
  k_with "compareOp Eq ref ref" => (first | ((k_here; (with_reducible show wpAny _ _ (compareOp CmpOp.Eq (Value.ref _) (Value.ref _)) _ _ _); k_dflt (refine' m_same ?zqk1 ?zqk3 ?zqk5 ?zqk2 ?zqk4 ?_ ?_; (case zqk1 => exact News.isList (by k_asm) (by k_mem)); (case zqk3 => exact News.isList (by k_asm) (by k_mem)); (case zqk5 => ktr_units); (case zqk2 => walk_at "mine ints"); (case zqk4 => walk_at "mine ints")))) | fail)
  k_with "call ref" => (first | ((k_here; (with_reducible show wpAny _ _ (call (Value.ref 132) [Value.ref _]) _ _ _); k_dflt (refine' AmbR.use (toMark_raises _ _ _ _ _ _ ?zqap ?zqhT ?zqhl ?zqhz) ?zqB ?zqF ?zqX (news_stack ?zqN ?zqe1 ?zqe2 ?zqe3) ?zqT ?zqhk ?zqhd ?zqhu ?_; walk_at "sd ae"; (case zqhz => assumption); (case zqhT => exact ThingsAre.mono (by with_reducible assumption) (by tb_rel)); (case zqhl => lcg_off); walk_at "sd pt"); walk_at "sd r")) | fail)
  k_with "call ref" => (first | ((k_here; (with_reducible show wpAny _ _ (call (Value.ref 132) [Value.ref _]) _ _ _); k_dflt (refine' Amb.use (toMark_ok _ _ _ _ _ _ ?zqap ?zqhT ?zqhl ?zqh0 ?zqhz ?zqhn) ?zqB ?zqF ?zqX (news_stack ?zqN ?zqe1 ?zqe2 ?zqe3) ?zqT ?zqhk ?zqhd ?zqhu ?_; walk_at "sd ae"; (case zqh0 => assumption); (case zqhz => assumption); (case zqhn => assumption); (case zqhT => exact ThingsAre.mono (by with_reducible assumption) (by tb_rel)); (case zqhl => lcg_off); walk_at "sd pt"); rintro zqr' zqnews' zqh' zqtk' zqF' zqN' ⟨⟨zqt', zqe1'⟩, zqe2'⟩; subst zqe1' zqe2'; (try dsimp only [stackLed, stackEs] at zqN'); (try k_sweep))) | fail)
  trivial
end
section
set_option maxRecDepth 100000 in
set_option maxHeartbeats 8000000 in
theorem way8 (w : World) (p : Program) (loose : List Str) (mean : ExcName → Option Value) (mg mb : Str → Option Value)
    {dk dc ow ia idd tl xi : Addr} {oxi : Obj} {mixed : Int} {t1 t2 : Tok} {h1 h2 : Int} {s1 s2 s3 : Tok} {most turn : Int} {ns dcs : List Int} {tm tw : Tok} {ps : Array Value} {o : Obj} {cvs vos ts : List Value} {n n2 n3 : Nat} {pool : List (Addr × Obj)}
    {ck ci cb cm cn cs : Addr} {many : Int} {isl : Bool} {due : Value}
    (hod : o.IsDictOf (strKind PySem.Challenge.rw_nt0483_01.row.prog w) (deckKvs dc mixed t1 turn t2)) (hI : IntsAre cvs dcs) (hlen : dcs.length ≤ 16) (hV : IntsAre vos ns) (hTh : ThingsAre pool ts ns) (hTb : TableOk ps pool)
    (hH : Heads dk dc ow ia idd tl) (hO : Off7 dk dc ow ia idd tl pool) (hsz : (ns.length : Int) ≤ most) (hC : CellsIn pool ck ci cm dk ia many) (hXi : Own xi dk dc ow ia idd tl pool)
    (hm0 : 3 ≤ most) (hm1 : most ≤ 8) (ht0 : 0 ≤ turn) (ht1 : turn ≤ 900) :
    WayAmb 4 w p loose mean mg mb (deedCl ck ci cb cm cn cs) ow most 8 isl due tm tw ((xi, oxi) :: deedLed ps dk dc ow ia idd tl o cvs vos ts n n2 n3 h1 h2 s1 s2 s3 most pool)
      (fun nx => ∃ nx' turn' ns', nx = (xi, oxi) :: nx' ∧ (∀ p ∈ nx', p.1 ≠ xi) ∧ turn ≤ turn' ∧ turn' ≤ turn + 8 ∧ DeedSt w dk dc ow ia idd mixed t1 h1 h2 s1 s2 s3 most turn' ns' nx') := by
  w_top off
  unfold WayAmb
  have eS : deedScope w = deedScope w := rfl
  conv at eS => rhs; whnf
  have eB : deedTail w = deedTail w := rfl
  conv at eB => rhs; whnf
  rw [eS, eB]
  clear eS eB
  k_fill
  intro dp un gd outer A₀ base h₀ L s Q E B F X₀ N T₀ CH hd hu hret
  have X := X₀.keeps B.stays
  have T := T₀.keeps B.stays
  obtain ⟨g1, g2, g3, g4, g5, g6, g7, g8, g9, g10, g11, g12, g13, g14, g15, g16, g17, g18, g19, g20, g21⟩ := hH
  obtain ⟨o0, o1, o2, o3, o4, o5, o6⟩ := hO
  obtain ⟨⟨ok, hk1, hk2⟩, ⟨oi, hi1, hi2⟩, ⟨om, tmn, hm2, hm3⟩⟩ := hC
  obtain ⟨z0, z1, z2, z3, z4, z5, z6, z7⟩ := hXi
  have HM : HeadMark dk dc ow ia idd xi := True.intro
  have hvl := hV.length
  have htl := hTh.length
  unfold deedLed stackLed stackEs at *
  unfold deedCl
  k_steps
  · show _ = _
    simp
  all_goals
    try dsimp only
    walk_at "mine fin"
    · exact hV
    · exact hTh.mono (by tb_rel)
    · assumption
    · exact fun nx Nx Ox Sx => hret _ _ _ _ ((xi, oxi) :: nx) .refl (by assumption) (by assumption) Nx ⟨nx, _, _, rfl, Ox, by omega, by omega, Sx⟩
end
section
open PySem PySem.W PySem.Spec PySem.Calls PyProof.Rows PyProof.V PyProof.Rows.LCg
set_option maxRecDepth 100000
section
variable {prog : Program} {w : World} {A : Around} {E : Value → Shared → Prop} {s : Shared} {h₀ : Heap} {L : Addr} {m : Str → Option Value} {env : Env}
/-- one turn of a comprehension over enumerate: the heap stays, the list grows or not -/
def EnTurn (prog : Program) (w : World) (A : Around) (h₀ : Heap) (L : Addr) (m : Str → Option Value) (env : Env) (c elt : PySem.Expr) (a b : Str) (scope : Scope) (cl : List (Str × Addr)) (s₂ : Shared) (news : List (Addr × Obj)) (vs : List Value) (J : Nat → List Value → Prop) : Prop :=
  ∀ (i : Nat) v t ys C oC m₂ h tk (E' : Value → Shared → Prop), vs[i]? = some v → J i ys → NsObj oC m₂ → m₂ a = some (.int (i : Int) t) → m₂ b = some v → Fr h₀ L h m → News h₀ L h ((C, oC) :: news) →
    wpAny (model prog w) A (isTrue c (compEnvC scope cl C env) (eval c (compEnvC scope cl C env))) (fun ok s₃ => if ok = true then
      wpAny (model prog w) A (eval elt (compEnvC scope cl C env)) (fun y s₄ => (∃ tk', s₄ = { s₂ with heap := h, toks := tk' }) ∧ J (i + 1) (ys ++ [y])) E' s₃
      else (∃ tk', s₃ = { s₂ with heap := h, toks := tk' }) ∧ J (i + 1) ys) E' { s₂ with heap := h, toks := tk }
theorem en_block {elt iter c : PySem.Expr} {a b : Str} {pa pb tp : Pos} {kk : Nat} {scope : Scope} {cl : List (Str × Addr)} {pos : Pos} {s₂ : Shared} {e it l : Addr} {lo : Obj} {n : Nat} {vs : List Value} {news : List (Addr × Obj)}
    {RR : Value → Addr → Result → Shared → Prop} (J : Nat → List Value → Prop)
    (hh : A.handled = none) (hei : e ≠ it) (hsz : vs.length ≤ sizeLine) (hlm : (l, lo) ∈ news) (hlc : lo.cls = .type "list") (hld : lo.data = .seq vs.toArray n)
    (hE : IsEnum s₂.heap e it 0 .none) (hI : s₂.heap.IsListIter it l 0)
    (hcell : ∀ y ∈ scope.names, y.2 ≠ .cell) (hkind : scope.kind = .function) (hxa : scope.names.lookup a = some .local) (hxb : scope.names.lookup b = some .local) (hab : ¬ a = b)
    (F : Fr h₀ L s₂.heap m) (N : News h₀ L s₂.heap news) (hLe : L ≠ e) (hLi : L ≠ it) (he₀ : h₀.get? e = none) (hi₀ : h₀.get? it = none) (offe : ∀ p ∈ news, p.1 ≠ e) (offi : ∀ p ∈ news, p.1 ≠ it)
    (hJ : J 0 []) (turn : EnTurn prog w A h₀ L m env c elt a b scope cl s₂ news vs J)
    (hRR : ∀ D C h tk m' ys, Fr h₀ L h m → News h₀ L h ((D, lst ys) :: news) → Off1 D news → h.Ns C m' → h₀.get? C = none → h₀.get? D = none → C ≠ L → D ≠ L → C ≠ D → (∀ p ∈ news, p.1 ≠ C) → J vs.length ys → RR (.ref D) C (.ok .next) { s₂ with heap := h, toks := tk }) :
    wpAny (model prog w) A (newList []) (fun acc s₃ => wpAny (model prog w) A (newFunctionEnv scope env.globals cl [] env.qual none .none (some env)) (fun cenv s₄ =>
      codeAny (model prog w) A (.compStart (.ListComp elt [⟨.Tuple [.Name a pa, .Name b pb] kk tp, iter, [c], 0⟩] scope pos) 0 (.ref e) acc { cenv with scope := relabel scope env }) (RR acc cenv.locals) s₄) E s₃) E s₂ := by
  w_top off
  have hle : l ≠ e := offe _ hlm
  have hli : l ≠ it := offi _ hlm
  refine wpAny_newObj_type (wpAny_newFunctionEnv hcell (by intro y hy; simp at hy) (fun h₁ hns₁ hsb₁ => ?_) hkind)
  dsimp only at hns₁ hsb₁ ⊢
  generalize hH2 : s₂.heap.push { cls := .type "list", dict := none, data := .seq ([] : List Value).toArray } = H2 at hns₁ hsb₁ ⊢
  have hC : H2.objs.size = s₂.heap.objs.size + 1 := by rw [← hH2, Heap.size_push]
  have hDC : s₂.heap.objs.size ≠ H2.objs.size := by rw [hC]; exact Nat.ne_of_lt (Nat.lt_succ_self _)
  have below : ∀ b, b < s₂.heap.objs.size → b ≠ H2.objs.size ∧ b ≠ s₂.heap.objs.size := fun b hb => ⟨by rw [hC]; exact Nat.ne_of_lt (Nat.lt_succ_of_lt hb), Nat.ne_of_lt hb⟩
  have helt : e < s₂.heap.objs.size := Heap.lt_size hE
  have hilt : it < s₂.heap.objs.size := by obtain ⟨o, ho, _⟩ := id hI; exact Heap.lt_size ho
  have hllt : l < s₂.heap.objs.size := Heap.lt_size (N _ hlm).1
  have old : ∀ b o, s₂.heap.get? b = some o → h₁.get? b = some o := fun b o q => hsb₁.extBut b o (below b (Heap.lt_size q)).1 (Heap.get?_push_of_some _ (hH2 ▸ Heap.get?_push_of_some _ q))
  have hacc : h₁.get? s₂.heap.objs.size = some (lst []) := hsb₁.extBut _ _ hDC (Heap.get?_push_of_some _ (hH2 ▸ Heap.get?_push_size _ rfl))
  have fresh : ∀ a, s₂.heap.objs.size ≤ a → s₂.heap.get? a = none := fun a ha => by
    cases q : s₂.heap.get? a with
    | none => rfl
    | some o' => exact absurd (Heap.lt_size q) (Nat.not_lt.mpr ha)
  have fresh₀ : ∀ a, s₂.heap.objs.size ≤ a → h₀.get? a = none := fun a ha => by
    cases q : h₀.get? a with
    | none => rfl
    | some o' => have := F.keep a o' q; rw [fresh a ha] at this; cases this
  have hD₀ : h₀.get? s₂.heap.objs.size = none := fresh₀ _ (Nat.le_refl _)
  have hC₀ : h₀.get? H2.objs.size = none := fresh₀ _ (by rw [hC]; exact Nat.le_succ _)
  have hLlt : L < s₂.heap.objs.size := F.ns.lt
  have hDL : s₂.heap.objs.size ≠ L := Ne.symm (below L hLlt).2
  have hCL : H2.objs.size ≠ L := Ne.symm (below L hLlt).1
  have offC : ∀ p ∈ news, p.1 ≠ H2.objs.size := fun p hp => (below _ (Heap.lt_size (N p hp).1)).1
  have offD : ∀ p ∈ news, p.1 ≠ s₂.heap.objs.size := fun p hp => (below _ (Heap.lt_size (N p hp).1)).2
  have o1 : ∀ {l : List (Addr × Obj)}, (∀ p ∈ l, p.1 ≠ s₂.heap.objs.size) → Off1 s₂.heap.objs.size l := fun {l} => by
    induction l with
    | nil => intro _; trivial
    | cons p r ih => intro h; exact ⟨h p (.head _), ih fun q hq => h q (.tail _ hq)⟩
  have W := WalksT.enumerate (prog := prog) (w := w) (A := A) hh e it l hei hle hli vs.toArray
  have hn : vs.toArray.size = vs.length := List.size_toArray
  have lists : ∀ h, News h₀ L h news → h.IsList l vs.toArray := fun h N' => ⟨lo, (N' _ hlm).1, hlc, n, hld⟩
  have loop : ∀ s₃ : Shared, s₃ = { s₂ with heap := h₁, toks := s₂.toks + ([] : List (Str × Value)).length } →
      codeAny (model prog w) A (.compLoop (.ListComp elt [⟨.Tuple [.Name a pa, .Name b pb] kk tp, iter, [c], 0⟩] scope pos) 0 (.ref e) (.ref s₂.heap.objs.size) (compEnvC scope cl H2.objs.size env))
        (RR (.ref s₂.heap.objs.size) H2.objs.size) s₃ := by
    rintro s₃ rfl
    refine kct_loop
      (fun k s' => ∃ h' tk i ys m', s' = { s₂ with heap := h', toks := tk } ∧ i ≤ vs.length ∧ k = vs.length + 1 - i ∧ ys.length ≤ i ∧ ((∃ old, IsEnum h' e it i old) ∧ h'.IsListIter it l i) ∧ Fr h₀ L h' m ∧ h'.Ns H2.objs.size m' ∧
        News h₀ L h' ((s₂.heap.objs.size, lst ys) :: news) ∧ J i ys) ?_ (vs.length + 1)
      ⟨h₁, _, 0, [], _, rfl, Nat.zero_le _, rfl, Nat.le_refl _, ⟨⟨.none, old _ _ hE⟩, hI.at fun o q => old _ o q⟩, F.keeps old, hns₁, fun p hp => ?_, hJ⟩
    · rintro k s' ⟨h', tk, i, ys, m', rfl, hi, rfl, hyl, hst', F', hn', N', hJ'⟩
      have N₀ : News h₀ L h' news := fun p hp => N' p (.tail _ hp)
      have st' : (∃ old, IsEnum h' e it i old) ∧ h'.IsListIter it l i ∧ h'.IsList l vs.toArray := ⟨hst'.1, hst'.2, lists _ N₀⟩
      by_cases hlt : i < vs.length
      · refine W.item i _ _ _ (by rw [hn]; exact hlt) st' fun T vals h₂ tk₂ hPt _ hT hMid hk₂ => ?_
        have hTw := W.apart i T _ hMid
        refine W.go [.Name a pa, .Name b pb] kk tp i T _ _ _ hMid fun h₃ hst₃ hk₃ => ?_
        obtain ⟨t, x, hx, rfl⟩ := hPt
        have hx' : vs[i]? = some x := by simpa using hx
        have hT₃ : h₃.IsTuple T #[.int (i : Int) t, x] := hT.at fun o q => hk₃ T o hTw q
        have up₃ : ∀ c o, c ≠ e → c ≠ it → h'.get? c = some o → h₃.get? c = some o := fun c o h1 h2 q => hk₃ c o (by simp [h1, h2]) (hk₂ c o (by simp [h1, h2]) q)
        have hCe : H2.objs.size ≠ e := Ne.symm (below e helt).1
        have hCi : H2.objs.size ≠ it := Ne.symm (below it hilt).1
        refine kcp_assign (env := compEnvC scope cl H2.objs.size env) hh hT₃ (lookup_relabel_local hxa) (lookup_relabel_local hxb) (by simp [compEnvC, relabel, hkind]) (hn'.at' fun o q => up₃ _ o hCe hCi q) fun h₄ tk₄ hn₄ hs₄ => ?_
        have up : ∀ c o, c ≠ e → c ≠ it → c ≠ H2.objs.size → h'.get? c = some o → h₄.get? c = some o := fun c o h1 h2 h3 q => hs₄ c o h3 (up₃ c o h1 h2 q)
        obtain ⟨⟨old', he₃⟩, hi₃, _⟩ := hst₃
        have he₄ : IsEnum h₄ e it ((i + 1 : Nat) : Int) old' := hs₄ e _ (Ne.symm hCe) he₃
        have hi₄ : h₄.IsListIter it l (i + 1) := hi₃.at fun o q => hs₄ it o (Ne.symm hCi) q
        obtain ⟨oC, heC, hoC⟩ := ns_obj hn₄
        have F₄ : Fr h₀ L h₄ m := ⟨F'.ns.at' fun o q => up _ o hLe hLi (Ne.symm hCL) q, fun c o q => up c o (fun z => by rw [z, he₀] at q; cases q) (fun z => by rw [z, hi₀] at q; cases q) (fun z => by rw [z, hC₀] at q; cases q) (F'.keep c o q), F'.above⟩
        have N₄ : News h₀ L h₄ ((H2.objs.size, oC) :: news) := fun q hq => by
          rcases List.mem_cons.mp hq with rfl | hq
          · exact ⟨heC, hCL, hC₀⟩
          · exact ⟨up _ _ (offe q hq) (offi q hq) (offC q hq) (N₀ q hq).1, (N₀ q hq).2⟩
        have hD₄ : h₄.get? s₂.heap.objs.size = some (lst ys) := up _ _ (Ne.symm (below e helt).2) (Ne.symm (below it hilt).2) hDC (N' _ (.head _)).1
        refine wpAny_mono (turn i x t ys H2.objs.size oC _ h₄ _ _ hx' hJ' hoC (by simp [hab]) (by simp) F₄ N₄) (fun okb s₅ h₅ => ?_) fun _ _ q => q
        cases okb with
        | false =>
          simp only [Bool.false_eq_true, if_false] at h₅ ⊢
          obtain ⟨⟨tk₅, rfl⟩, hJ₅⟩ := h₅
          exact ⟨vs.length + 1 - (i + 1), by omega, h₄, tk₅, i + 1, ys, _, rfl, hlt, rfl, Nat.le_succ_of_le hyl, ⟨⟨old', he₄⟩, hi₄⟩, F₄, hn₄, fun q hq => by
            rcases List.mem_cons.mp hq with rfl | hq
            · exact ⟨hD₄, hDL, hD₀⟩
            · exact N₄ q (.tail _ hq), hJ₅⟩
        | true =>
          simp only [if_true] at h₅ ⊢
          refine wpAny_mono h₅ (fun y s₆ h₆ => ?_) fun _ _ q => q
          obtain ⟨⟨tk₆, rfl⟩, hJ₆⟩ := h₆
          refine append_at (hsz := by show ys.toArray.size ≤ sizeLine; rw [List.size_toArray]; exact Nat.le_trans hyl (Nat.le_trans hi hsz)) hD₄ fun h₇ hs₇ hD₇ => ?_
          refine ⟨vs.length + 1 - (i + 1), by omega, h₇, tk₆, i + 1, ys ++ [y], _, rfl, hlt, rfl, by rw [List.length_append, List.length_singleton]; exact Nat.succ_le_succ hyl,
            ⟨⟨old', hs₇.extBut _ _ (below e helt).2 he₄⟩, hi₄.at fun o q => hs₇.extBut _ _ (below it hilt).2 q⟩, F₄.change hs₇ hDL hD₀, hn₄.sameBut hs₇ (Ne.symm hDC), fun q hq => ?_, hJ₆⟩
          rcases List.mem_cons.mp hq with rfl | hq
          · exact ⟨hD₇.trans (congrArg some (lst_snoc ys y)), hDL, hD₀⟩
          · exact ⟨hs₇.extBut _ _ (offD q hq) (N₄ q (.tail _ hq)).1, (N₄ q (.tail _ hq)).2⟩
      · have hin : i = vs.length := Nat.le_antisymm hi (Nat.not_lt.mp hlt)
        subst hin
        refine W.done _ _ _ (by rw [hn]; exact st') fun h₂ tk₂ hk₂ => ?_
        have up : ∀ c o, c ≠ e → c ≠ it → h'.get? c = some o → h₂.get? c = some o := fun c o h1 h2 q => hk₂ c o (by simp [h1, h2]) q
        exact hRR _ _ h₂ tk₂ _ ys ⟨F'.ns.at' fun o q => up _ o hLe hLi q, fun c o q => up c o (fun z => by rw [z, he₀] at q; cases q) (fun z => by rw [z, hi₀] at q; cases q) (F'.keep c o q), F'.above⟩ (fun q hq => by
          rcases List.mem_cons.mp hq with rfl | hq
          · exact ⟨up _ _ (Ne.symm (below e helt).2) (Ne.symm (below it hilt).2) (N' _ (.head _)).1, hDL, hD₀⟩
          · exact ⟨up _ _ (offe q hq) (offi q hq) (N₀ q hq).1, (N₀ q hq).2⟩) (o1 offD) (hn'.at' fun o q => up _ o (Ne.symm (below e helt).1) (Ne.symm (below it hilt).1) q) hC₀ hD₀ hCL hDL (Ne.symm hDC) offC hJ'
    · rcases List.mem_cons.mp hp with rfl | hp
      · exact ⟨hacc, hDL, hD₀⟩
      · exact ⟨old _ _ (N p hp).1, (N p hp).2⟩
  refine codeAny_compStart_list (loop _ rfl) ?_
  exact wpAny_pyIter_enum (old _ _ hE) (loop _ rfl)
/-- the iterable of such a comprehension, and what is behind it -/
def EnSrc (prog : Program) (w : World) (A : Around) (h₀ : Heap) (L : Addr) (m : Str → Option Value) (env : Env) (c elt : PySem.Expr) (a b : Str) (scope : Scope) (cl : List (Str × Addr)) (Fin : Shared → Addr → Heap → Nat → List Value → List (Addr × Obj) → Prop) (xv : Value) (s₁ : Shared) : Prop :=
  ∃ (e it l : Addr) (lo : Obj) (n : Nat) (vs : List Value) (news : List (Addr × Obj)) (J : Nat → List Value → Prop), xv = .ref e ∧ A.handled = none ∧ e ≠ it ∧ vs.length ≤ sizeLine ∧ (l, lo) ∈ news ∧ lo.cls = .type "list" ∧ lo.data = .seq vs.toArray n ∧ IsEnum s₁.heap e it 0 .none ∧ s₁.heap.IsListIter it l 0 ∧
    Fr h₀ L s₁.heap m ∧ News h₀ L s₁.heap news ∧ L ≠ e ∧ L ≠ it ∧ h₀.get? e = none ∧ h₀.get? it = none ∧ (∀ p ∈ news, p.1 ≠ e) ∧ (∀ p ∈ news, p.1 ≠ it) ∧ J 0 [] ∧ EnTurn prog w A h₀ L m env c elt a b scope cl s₁ news vs J ∧
    ∀ D h tk ys, J vs.length ys → Fin s₁ D h tk ys news
def EnFin (h₀ : Heap) (L : Addr) (m : Str → Option Value) (y : Str) (Q : Flow → Shared → Prop) (s₁ : Shared) (D : Addr) (h : Heap) (tk : Nat) (ys : List Value) (news : List (Addr × Obj)) : Prop :=
  Fr h₀ L h (fun z => if z = y then some (.ref D) else m z) → News h₀ L h ((D, lst ys) :: news) → Off1 D news → Q .next { s₁ with heap := h, toks := tk }
theorem en_Assign {elt iter c : PySem.Expr} {a b y : Str} {pa pb tp py : Pos} {kk : Nat} {scope : Scope} {cl : List (Str × Addr)} {pos spos : Pos} {Q : Flow → Shared → Prop} (F₀ : Fr h₀ L s.heap m) (hLe : env.locals = L)
    (hsw : swapsWith (.ListComp elt [⟨.Tuple [.Name a pa, .Name b pb] kk tp, iter, [c], 0⟩] scope pos) (some (.Name y py)) spos.line env = pure true)
    (hclos : closureFor scope env = pure cl) (hcell : ∀ z ∈ scope.names, z.2 ≠ .cell) (hkind : scope.kind = .function)
    (hnames : ∀ z ∈ scope.names, z.2 = .local → scope.names.lookup z.1 = some .local) (hxa : scope.names.lookup a = some .local) (hxb : scope.names.lookup b = some .local) (hab : ¬ a = b)
    (hy : env.kindOf y = some .local) (hp : (env.scope.kind == .class || (env.scope.kind == .module && env.locals != env.globals)) = false)
    (h : wpAny (model prog w) A (eval iter env) (EnSrc prog w A h₀ L m env c elt a b scope cl (EnFin h₀ L m y Q)) E s)
    (hs : ∀ x, foldedSetIterable iter env x = pure x := by intro _; rfl) :
    wpAny (model prog w) A (exec (.Assign [.Name y py] (.ListComp elt [⟨.Tuple [.Name a pa, .Name b pb] kk tp, iter, [c], 0⟩] scope pos) spos) env) Q E s := by
  subst hLe
  rw [exec_Assign_Name_used _ _ _ _ hsw]
  refine wpAny_bind (wpAny_standAt (wpAny_bind ?_))
  show wpAny _ A (do let _ ← comprehension (.ListComp elt [⟨.Tuple [.Name a pa, .Name b pb] kk tp, iter, [c], 0⟩] scope pos) scope env _ (newList []) false (eval iter env) (some (assign (.Name y py) env))) _ _ s
  refine wpAny_bind (wpAny_mono (wpAny_comprehension_free (use := some (assign (.Name y py) env)) (Q := fun _ s' => Q .next s') rfl hs hclos hkind hnames
    (wpAny_mono h (fun xv s₁ h₁ => ?_) fun _ _ e => e)) (fun _ s' hq => wpAny_pure (wpAny_pure hq)) fun _ _ e => e)
  obtain ⟨e, it, l, lo, n, vs, news, J, rfl, hh, hei, hsz, hlm, hlc, hld, hE, hI, F, N, hLe, hLi, he₀, hi₀, offe, offi, hJ, turn, fin⟩ := h₁
  refine wpAny_pyIter_enum hE ?_
  refine en_block J hh hei hsz hlm hlc hld hE hI hcell hkind hxa hxb hab F N hLe hLi he₀ hi₀ offe offi hJ turn ?_
  intro D C h' tk m' ys F' N' o1 hn hC₀ hD₀ hCL hDL hCD offC hJ'
  show wpAny _ A (assign (.Name y py) env (.ref D)) _ _ _
  refine wpAny_assign_Name (wpAny_storeName_local hy F'.ns (fun h₂ hn₂ hs₂ => ?_) hp)
  have hL₀ : h₀.get? env.locals = none := Heap.get?_none_of_le F'.above
  have F₂ : Fr h₀ env.locals h₂ (fun z => if z = y then some (.ref D) else m z) := ⟨hn₂, fun b o e => hs₂.extBut b o (fun q => by rw [q, hL₀] at e; cases e) (F'.keep b o e), F'.above⟩
  refine ⟨m', hn.sameBut hs₂ hCL, fun h'' hs'' => fin D h'' _ ys hJ' (F₂.change hs'' hCL hC₀) (fun p hp => ?_) o1⟩
  have z : h₂.get? p.1 = some p.2 := hs₂.extBut _ _ (N' p hp).2.1 (N' p hp).1
  refine ⟨hs''.extBut _ _ ?_ z, (N' p hp).2⟩
  rcases List.mem_cons.mp hp with rfl | hp
  · exact Ne.symm hCD
  · exact offC p hp
theorem en_src {c elt : PySem.Expr} {a b : Str} {scope : Scope} {cl : List (Str × Addr)} {Fin : Shared → Addr → Heap → Nat → List Value → List (Addr × Obj) → Prop} {l : Addr} {n : Nat} {vs : List Value} {news : List (Addr × Obj)} (J : Nat → List Value → Prop)
    (hh : A.handled = none) (F : Fr h₀ L s.heap m) (N : News h₀ L s.heap news) (hlm : (l, W.listOf vs.toArray n) ∈ news) (hsz : vs.length ≤ 1000) (hJ : J 0 [])
    (turn : ∀ h', EnTurn prog w A h₀ L m env c elt a b scope cl { s with heap := h' } news vs J) (fin : ∀ h' D h tk ys, J vs.length ys → Fin { s with heap := h' } D h tk ys news) :
    wpAny (model prog w) A (call (.type "enumerate") [.ref l]) (EnSrc prog w A h₀ L m env c elt a b scope cl Fin) E s := by
  have hl : s.heap.IsList l vs.toArray := News.isList N hlm
  have nw : ∀ k, h₀.get? (s.heap.objs.size + k) = none := fun k => by
    cases q : h₀.get? (s.heap.objs.size + k) with
    | none => rfl
    | some o => exact absurd (Heap.lt_size (F.keep _ _ q)) (Nat.not_lt.mpr (Nat.le_add_right _ _))
  have hLs : L < s.heap.objs.size := F.ns.lt
  have hsz2 : vs.length ≤ sizeLine := Nat.le_trans hsz (by rw [sizeLine_eq]; decide)
  refine call_enumerate_list hl fun h' hE hI hsz' hk => ?_
  refine ⟨s.heap.objs.size + 1, s.heap.objs.size, l, _, n, vs, news, J, rfl, hh, Nat.succ_ne_self _, hsz2, hlm, rfl, rfl, hE, hI, F.keeps hk, N.grown hk, ?_, Nat.ne_of_lt hLs, nw 1, nw 0, fun p hp => ?_, fun p hp => Nat.ne_of_lt (Heap.lt_size (N p hp).1), hJ, turn h', fun D h tk ys hJ' => fin h' D h tk ys hJ'⟩
  · exact Nat.ne_of_lt (Nat.lt_succ_of_lt hLs)
  · exact Nat.ne_of_lt (Nat.lt_succ_of_lt (Heap.lt_size (N p hp).1))
end
end
section
/-- where the list holds 0, below i -/
def spots (ns : List Int) (i : Nat) : List Int := ((List.range i).filter (fun j => decide (ns[j]? = some 0))).map Int.ofNat
theorem spots_hit {ns : List Int} {i : Nat} (h : ns[i]? = some 0) : spots ns (i + 1) = spots ns i ++ [(i : Int)] := by
  w_top off
  unfold spots
  rw [List.range_succ, List.filter_append, List.map_append]
  simp [h]
theorem spots_miss {ns : List Int} {i : Nat} {k : Int} (h : ns[i]? = some k) (hk : k ≠ 0) : spots ns (i + 1) = spots ns i := by
  unfold spots
  rw [List.range_succ, List.filter_append, List.map_append]
  simp [h, hk]
set_option maxRecDepth 100000 in
set_option maxHeartbeats 8000000 in
theorem spots_turn {w : World} {dp un : Nat} {gd : Option (List Code)} {cn : Str} {cs : Scope} {a : Addr} {ccd : Value} {ecl cl : List (Str × Addr)} {outer : List Env} {h₀ : Heap} {L : Addr} {m : Str → Option Value} {s : Shared} {p1 p2 p3 p4 : Pos}
    {news : List (Addr × Obj)} {vs : List Value} {ns : List Int} (X : (Mine.hd.heap_1 w.params).In h₀) (hI : IntsAre vs ns) :
    EnTurn PySem.Challenge.rw_nt0483_01.row.prog w (ktrTop dp un gd cn cs L a ccd ecl outer) h₀ L m (envX cn cs L a ccd ecl)
      (Expr.Compare (Expr.Name (Str.ofString "one") p1) [CmpOp.Eq] [Expr.Constant (.int 0) 0 p2] p3) (Expr.Name (Str.ofString "at") p4) (Str.ofString "at") (Str.ofString "one")
      { kind := .function, names := [(Str.ofString ".0", .local), (Str.ofString "at", .local), (Str.ofString "one", .local)], isGenerator := false, isCoroutine := false } cl s news vs (fun i ys => IntsAre ys (spots ns i)) := by
  unfold EnTurn
  revert X
  k_fill
  intro X i v t ys C oC m₂ h tk E' hv hJ hC ha hb F N
  obtain ⟨k, u, rfl, hk⟩ := IntsAre.at hI i v hv
  k_steps
  · rename k = 0 => h0
    subst h0
    show IntsAre _ (spots ns (i + 1))
    rw [spots_hit hk]
    exact ints_snoc hJ _ _
  · rename k ≠ 0 => h0
    show IntsAre _ (spots ns (i + 1))
    rw [spots_miss hk h0]
    exact hJ
theorem spots_none {ns : List Int} (h : ∀ j : Nat, ns[j]? ≠ some 0) : ∀ i, spots ns i = []
  | 0 => rfl
  | i + 1 => by
    cases q : ns[i]? with
    | none => unfold spots; rw [List.range_succ, List.filter_append, List.map_append]; simp [q]; exact fun j _ => h j
    | some k =>
      have hk : k ≠ 0 := fun e => h i (by rw [q, e])
      rw [spots_miss q hk]; exact spots_none h i
/-- the last of them -/
theorem spots_last {ns : List Int} {q : Nat} (hq : ns[q]? = some 0) : ∀ j, q + j ≤ ns.length → (∀ i, q < i → i < q + j → ns[i]? ≠ some 0) → j ≠ 0 → spots ns (q + j) = spots ns q ++ [(q : Int)]
  | 0, _, _, h => absurd rfl h
  | 1, _, _, _ => spots_hit hq
  | j + 2, hl, hz, _ => by
    have hlt : q + (j + 1) < ns.length := by omega
    have e : ns[q + (j + 1)]? = some ns[q + (j + 1)] := List.getElem?_eq_getElem hlt
    have hk : ns[q + (j + 1)] ≠ 0 := fun z => hz (q + (j + 1)) (by omega) (by omega) (by rw [e, z])
    rw [show q + (j + 2) = q + (j + 1) + 1 by omega, spots_miss e hk]
    exact spots_last hq (j + 1) (by omega) (fun i h1 h2 => hz i h1 (by omega)) (by omega)
section
variable {prog : Program} {w : World} {A : Around} {E : Value → Shared → Prop} {s : Shared} {a b : Addr} {vs : List Value} {ns : List Int} {Q : Value → Shared → Prop}
theorem m_nonempty (hl : s.heap.IsList a vs.toArray) (hl' : s.heap.IsList b ([] : List Value).toArray) (hu : A.units + 64 < cLine) (hi : IntsAre vs ns) (hne : ns ≠ []) (h : Q (.bool true) s) : wpAny (model prog w) A (compareOp .NotEq (.ref a) (.ref b)) Q E s :=
  ne_intsK hl hi hl' .nil hu (by simpa [hne] using h)
theorem m_empty (hl : s.heap.IsList a ([] : List Value).toArray) (hl' : s.heap.IsList b ([] : List Value).toArray) (hu : A.units + 64 < cLine) (h : Q (.bool false) s) : wpAny (model prog w) A (compareOp .NotEq (.ref a) (.ref b)) Q E s :=
  ne_intsK hl .nil hl' .nil hu (by simpa using h)
end
theorem said_M22_1 : True := by
  k_with "exec Assign cons ListComp" => (first | ((k_here; (with_reducible show wpAny _ _ (exec (Stmt.Assign [Expr.Name _ _] (Expr.ListComp _ [⟨Expr.Tuple _ _ _, _, [_], _⟩] _ _) _) _) _ _ _); k_dflt (refine en_Assign (F₀ := by k_asm) (by rfl) (by with_unfolding_all rfl) (by with_unfolding_all rfl) (by decide) (by rfl) (by decide) (by rfl) (by rfl) (by decide) (by rfl) (by rfl) ?_))) | fail)
  k_with "call type:enumerate" => (first | ((k_here; (with_reducible show wpAny _ _ (call (Value.type _) [Value.ref _]) (EnSrc _ _ _ _ _ _ _ _ _ _ _ _ _ _) _ _); k_dflt (refine' en_src _ ?zqhh ?zqF ?zqN ?zql ?zqz ?zqj (fun zqh' => spots_turn ?zqX ?zqI) ?_; (case zqhh => exact rfl); (case zqF => k_asm); (case zqN => k_asm); (case zqX => k_asm); (case zql => k_mem); (case zqI => assumption); (case zqz => lcg_off); (case zqj => exact .nil)); intro zqh' zqD' zqh1' zqtk' zqys' zqhJ')) | fail)
  k_with "compareOp NotEq ref ref" => (first | ((k_here; (with_reducible show wpAny _ _ (compareOp CmpOp.NotEq (Value.ref _) (Value.ref _)) _ _ _); k_dflt (first | (refine' m_nonempty ?zqk1 ?zqk3 ?zqk5 ?zqk2 ?zqk4 ?_; (case zqk1 => exact News.isList (by k_asm) (by k_mem)); (case zqk3 => exact News.isList (by k_asm) (by k_mem)); (case zqk5 => ktr_units); (case zqk2 => assumption); (case zqk4 => assumption)) | (refine' m_empty ?zqk1 ?zqk3 ?zqk5 ?_; (case zqk1 => exact News.isList (by k_asm) (by k_mem)); (case zqk3 => exact News.isList (by k_asm) (by k_mem)); (case zqk5 => ktr_units))))) | fail)
  trivial
theorem ints_snoc_inv {vs : List Value} : ∀ {ns : List Int} {k : Int}, IntsAre vs (ns ++ [k]) → ∃ vs₀ t, vs = vs₀ ++ [Value.int k t] ∧ IntsAre vs₀ ns := by
  induction vs with
  | nil => intro ns k h; have := h.length; simp at this
  | cons v r ih =>
    intro ns k h
    cases ns with
    | nil =>
      cases h with
      | cons _ t h' => cases h'; exact ⟨[], t, rfl, .nil⟩
    | cons n ns =>
      cases h with
      | cons _ t h' =>
        obtain ⟨r₀, t', rfl, h₀⟩ := ih h'
        exact ⟨_ :: r₀, t', rfl, .cons _ _ h₀⟩
/-- d is given back, and the ledger stands -/
def BackAll (d : Int) (news : List (Addr × Obj)) (v : Value) (news' : List (Addr × Obj)) : Prop := (∃ u, v = .int d u) ∧ ∀ q ∈ news, q ∈ news'
theorem told_back {w : World} {p : Program} {loose : List Str} {mean : ExcName → Option Value} {mg mb : Str → Option Value} {lv : Nat} {lam : Addr} {news : List (Addr × Obj)} {nm ql : Str} {prm : Arguments} {bdy : PySem.Expr} {scp : Scope} {clo : List (Str × Addr)} {pmv ctv : Value} {cda : Addr}
    {dp un : Nat} {gd : Option (List Code)} {cn : Str} {cs : Scope} {a : Addr} {ccd : Value} {cl : List (Str × Addr)} {outer : List Env} {A₀ : Around} {base h₀ : Heap} {L : Addr} {m : Str → Option Value} {s : Shared} {Q E : Value → Shared → Prop} (d : Int)
    (B : Below A₀ base outer h₀) (F : Fr h₀ L s.heap m) (X : (Mine.hd.heap_1 w.params).In h₀) (N : News h₀ L s.heap news) (T : Top p loose mean mg mb h₀) (hk : cs.kind = .function) (hd : dp + 20 * (lv + 1) < recursionLimit) (hu : un + 200 * (lv + 1) < cLine)
    (hlam : (lam, kla_obj nm ql prm bdy scp clo pmv cda ctv) ∈ news) (C : Amb lv w p loose mean mg mb lam [] news (BackAll d news))
    (k : ∀ u h' tk', Fr h₀ L h' m → News h₀ L h' news → Q (.int d u) { s with heap := h', toks := tk' }) :
    AtTold (wpAny (model PySem.Challenge.rw_nt0483_01.row.prog w) (ktrTop dp un gd cn cs L a ccd cl outer) (call (.ref 215) [.ref lam]) Q E s) :=
  Amb.use (told_returns w p loose mean mg mb hlam C) B F X N T hk hd hu fun r news' h' tk' F' N' hr => by
    obtain ⟨⟨u, rfl⟩, hs⟩ := hr
    exact k u h' tk' F' (news_sub N' hs)
end
section
set_option maxRecDepth 100000 in
set_option maxHeartbeats 8000000 in
theorem way5_range (w : World) (p : Program) (loose : List Str) (mean : ExcName → Option Value) (mg mb : Str → Option Value)
    {dk dc ow ia idd tl xi : Addr} {oxi : Obj} {mixed : Int} {t1 t2 : Tok} {h1 h2 : Int} {s1 s2 s3 : Tok} {most turn : Int} {ns dcs : List Int} {tm tw : Tok} {ps : Array Value} {o : Obj} {cvs vos ts : List Value} {n n2 n3 : Nat} {pool : List (Addr × Obj)}
    {ck ci cb cm cn cs : Addr} {many : Int} {isl : Bool} {due : Value} {du : Tok}
    (hod : o.IsDictOf (strKind PySem.Challenge.rw_nt0483_01.row.prog w) (deckKvs dc mixed t1 turn t2)) (hI : IntsAre cvs dcs) (hlen : dcs.length ≤ 16) (hV : IntsAre vos ns) (hTh : ThingsAre pool ts ns) (hTb : TableOk ps pool)
    (hH : Heads dk dc ow ia idd tl) (hO : Off7 dk dc ow ia idd tl pool) (hsz : (ns.length : Int) ≤ most) (hC : CellsIn pool ck ci cm dk ia many) (hXi : Own xi dk dc ow ia idd tl pool)
    (hm0 : 3 ≤ most) (hm1 : most ≤ 8) (ht0 : 0 ≤ turn) (ht1 : turn ≤ 900) (hmn : many < 0) (hdu : due = .bytes bRange du) :
    WayAmb 4 w p loose mean mg mb (deedCl ck ci cb cm cn cs) ow most 5 isl due tm tw ((xi, oxi) :: deedLed ps dk dc ow ia idd tl o cvs vos ts n n2 n3 h1 h2 s1 s2 s3 most pool)
      (fun nx => ∃ nx' turn' ns', nx = (xi, oxi) :: nx' ∧ (∀ p ∈ nx', p.1 ≠ xi) ∧ turn ≤ turn' ∧ turn' ≤ turn + 8 ∧ DeedSt w dk dc ow ia idd mixed t1 h1 h2 s1 s2 s3 most turn' ns' nx') := by
  w_top off
  unfold WayAmb
  have eS : deedScope w = deedScope w := rfl
  conv at eS => rhs; whnf
  have eB : deedTail w = deedTail w := rfl
  conv at eB => rhs; whnf
  rw [eS, eB]
  clear eS eB
  k_fill
  intro dp un gd outer A₀ base h₀ L s Q E B F X₀ N T₀ CH hd hu hret
  have X := X₀.keeps B.stays
  have T := T₀.keeps B.stays
  obtain ⟨g1, g2, g3, g4, g5, g6, g7, g8, g9, g10, g11, g12, g13, g14, g15, g16, g17, g18, g19, g20, g21⟩ := hH
  obtain ⟨o0, o1, o2, o3, o4, o5, o6⟩ := hO
  obtain ⟨⟨ok, hk1, hk2⟩, ⟨oi, hi1, hi2⟩, ⟨om, tmn, hm2, hm3⟩⟩ := hC
  obtain ⟨z0, z1, z2, z3, z4, z5, z6, z7⟩ := hXi
  have HM : HeadMark dk dc ow ia idd xi := True.intro
  have hvl := hV.length
  have htl := hTh.length
  unfold deedLed stackLed stackEs at *
  unfold deedCl
  subst hdu
  k_steps
  walk_at "told range"
  · intro dp un gd cn cs a ccd cl outer A₀ base h₀ L m s Q E B F X N T hk hd hu hret
    walk_at "mine lam"
    k_steps
    rename OutOf _ _ (envX cn cs _ _ _ _ :: _) _ _ _ _ _ => R'
    exact hret _ _ _ _ _ _ _ _ _ (by assumption) R' (by assumption) ⟨by assumption, by tb_rel⟩
  intro u1 h1' tk1' h₀1' T1' B1' X1' P1' F1' N1'
  clear B X T F N
  k_steps
  walk_at "told range"
  · intro dp un gd cn cs a ccd cl outer A₀ base h₀ L m s Q E B F X N T hk hd hu hret
    walk_at "mine lam"
    k_steps
    rename OutOf _ _ (envX cn cs _ _ _ _ :: _) _ _ _ _ _ => R'
    exact hret _ _ _ _ _ _ _ _ _ (by assumption) R' (by assumption) ⟨by assumption, by tb_rel⟩
  intro u2 h2' tk2' h₀2' T2' B2' X2' P2' F2' N2'
  k_steps
  show Q (.ret (.bool true)) _
  walk_at "mine fin"
  · exact hV
  · exact hTh.mono (by tb_rel)
  · assumption
  · exact fun nx Nx Ox Sx => hret _ _ _ _ ((xi, oxi) :: nx) (T1'.trans T2') B2' F2' Nx ⟨nx, _, _, rfl, Ox, by omega, by omega, Sx⟩
end
section
set_option maxRecDepth 100000 in
set_option maxHeartbeats 8000000 in
theorem way5_under (w : World) (p : Program) (loose : List Str) (mean : ExcName → Option Value) (mg mb : Str → Option Value)
    {dk dc ow ia idd tl xi : Addr} {oxi : Obj} {mixed : Int} {t1 t2 : Tok} {h1 h2 : Int} {s1 s2 s3 : Tok} {most turn : Int} {ns dcs : List Int} {tm tw : Tok} {ps : Array Value} {o : Obj} {cvs vos ts : List Value} {n n2 n3 : Nat} {pool : List (Addr × Obj)}
    {ck ci cb cm cn cs : Addr} {many : Int} {isl : Bool} {due : Value} {du : Tok}
    (hod : o.IsDictOf (strKind PySem.Challenge.rw_nt0483_01.row.prog w) (deckKvs dc mixed t1 turn t2)) (hI : IntsAre cvs dcs) (hlen : dcs.length ≤ 16) (hV : IntsAre vos ns) (hTh : ThingsAre pool ts ns) (hTb : TableOk ps pool)
    (hH : Heads dk dc ow ia idd tl) (hO : Off7 dk dc ow ia idd tl pool) (hsz : (ns.length : Int) ≤ most) (hC : CellsIn pool ck ci cm dk ia many) (hXi : Own xi dk dc ow ia idd tl pool)
    (hm0 : 3 ≤ most) (hm1 : most ≤ 8) (ht0 : 0 ≤ turn) (ht1 : turn ≤ 900) (hmn : 0 ≤ many) (hmm : (ns.length : Int) < many) (hdu : due = .bytes bUnder du) :
    WayAmb 4 w p loose mean mg mb (deedCl ck ci cb cm cn cs) ow most 5 isl due tm tw ((xi, oxi) :: deedLed ps dk dc ow ia idd tl o cvs vos ts n n2 n3 h1 h2 s1 s2 s3 most pool)
      (fun nx => ∃ nx' turn' ns', nx = (xi, oxi) :: nx' ∧ (∀ p ∈ nx', p.1 ≠ xi) ∧ turn ≤ turn' ∧ turn' ≤ turn + 8 ∧ DeedSt w dk dc ow ia idd mixed t1 h1 h2 s1 s2 s3 most turn' ns' nx') := by
  w_top off
  unfold WayAmb
  have eS : deedScope w = deedScope w := rfl
  conv at eS => rhs; whnf
  have eB : deedTail w = deedTail w := rfl
  conv at eB => rhs; whnf
  rw [eS, eB]
  clear eS eB
  k_fill
  intro dp un gd outer A₀ base h₀ L s Q E B F X₀ N T₀ CH hd hu hret
  have X := X₀.keeps B.stays
  have T := T₀.keeps B.stays
  obtain ⟨g1, g2, g3, g4, g5, g6, g7, g8, g9, g10, g11, g12, g13, g14, g15, g16, g17, g18, g19, g20, g21⟩ := hH
  obtain ⟨o0, o1, o2, o3, o4, o5, o6⟩ := hO
  obtain ⟨⟨ok, hk1, hk2⟩, ⟨oi, hi1, hi2⟩, ⟨om, tmn, hm2, hm3⟩⟩ := hC
  obtain ⟨z0, z1, z2, z3, z4, z5, z6, z7⟩ := hXi
  have HM : HeadMark dk dc ow ia idd xi := True.intro
  have hvl := hV.length
  have htl := hTh.length
  unfold deedLed stackLed stackEs at *
  unfold deedCl
  subst hdu
  k_steps
  walk_at "told under"
  · intro dp un gd cn cs a ccd cl outer A₀ base h₀ L m s Q E B F X N T hk hd hu hret
    walk_at "mine lam"
    k_steps
    rename OutOf _ _ (envX cn cs _ _ _ _ :: _) _ _ _ _ _ => R'
    exact hret _ _ _ _ _ _ _ _ _ (by assumption) R' (by assumption) ⟨by assumption, by tb_rel⟩
  intro u1 h1' tk1' h₀1' T1' B1' X1' P1' F1' N1'
  clear B X T F N
  k_steps
  walk_at "told under"
  · intro dp un gd cn cs a ccd cl outer A₀ base h₀ L m s Q E B F X N T hk hd hu hret
    walk_at "mine lam"
    k_steps
    rename OutOf _ _ (envX cn cs _ _ _ _ :: _) _ _ _ _ _ => R'
    exact hret _ _ _ _ _ _ _ _ _ (by assumption) R' (by assumption) ⟨by assumption, by tb_rel⟩
  intro u2 h2' tk2' h₀2' T2' B2' X2' P2' F2' N2'
  k_steps
  show Q (.ret (.bool true)) _
  walk_at "mine fin"
  · exact hV
  · exact hTh.mono (by tb_rel)
  · assumption
  · exact fun nx Nx Ox Sx => hret _ _ _ _ ((xi, oxi) :: nx) (T1'.trans T2') B2' F2' Nx ⟨nx, _, _, rfl, Ox, by omega, by omega, Sx⟩
end
section
set_option maxRecDepth 100000 in
set_option maxHeartbeats 8000000 in
theorem way5_ok (w : World) (p : Program) (loose : List Str) (mean : ExcName → Option Value) (mg mb : Str → Option Value)
    {dk dc ow ia idd tl xi : Addr} {oxi : Obj} {mixed : Int} {t1 t2 : Tok} {h1 h2 : Int} {s1 s2 s3 : Tok} {most turn : Int} {ns dcs : List Int} {tm tw : Tok} {ps : Array Value} {o ox : Obj} {cvs vos ts : List Value} {n n2 n3 : Nat} {pool : List (Addr × Obj)}
    {ck ci cb cm cn cs : Addr} {many : Int} {isl : Bool} {due : Value} {xv : Option Value}
    (hod : o.IsDictOf (strKind PySem.Challenge.rw_nt0483_01.row.prog w) (deckKvs dc mixed t1 turn t2)) (hI : IntsAre cvs dcs) (hlen : dcs.length ≤ 16) (hV : IntsAre vos ns) (hTh : ThingsAre pool ts ns) (hTb : TableOk ps pool)
    (hH : Heads dk dc ow ia idd tl) (hO : Off7 dk dc ow ia idd tl pool) (hsz : (ns.length : Int) ≤ most) (hC : CellsIn pool ck ci cm dk ia many) (hXi : Own xi dk dc ow ia idd tl pool) (hx : ox.data = .cell xv) (hW : Own cs dk dc ow ia idd tl pool) (hcx : Neq cs xi)
    (hm0 : 3 ≤ most) (hm1 : most ≤ 8) (ht0 : 0 ≤ turn) (ht1 : turn ≤ 900) (hmn : 0 ≤ many) (hmm : many ≤ (ns.length : Int)) (hdu : due = .none) :
    WayAmb 4 w p loose mean mg mb (deedCl ck ci cb cm cn cs) ow most 5 isl due tm tw ((cs, ox) :: (xi, oxi) :: deedLed ps dk dc ow ia idd tl o cvs vos ts n n2 n3 h1 h2 s1 s2 s3 most pool)
      (fun nx => ∃ nx' turn' ns', nx = (xi, oxi) :: nx' ∧ (∀ p ∈ nx', p.1 ≠ xi) ∧ turn ≤ turn' ∧ turn' ≤ turn + 8 ∧ DeedSt w dk dc ow ia idd mixed t1 h1 h2 s1 s2 s3 most turn' ns' nx') := by
  w_top off
  unfold WayAmb
  have eS : deedScope w = deedScope w := rfl
  conv at eS => rhs; whnf
  have eB : deedTail w = deedTail w := rfl
  conv at eB => rhs; whnf
  rw [eS, eB]
  clear eS eB
  k_fill
  intro dp un gd outer A₀ base h₀ L s Q E B F X₀ N T₀ CH hd hu hret
  have X := X₀.keeps B.stays
  have T := T₀.keeps B.stays
  obtain ⟨g1, g2, g3, g4, g5, g6, g7, g8, g9, g10, g11, g12, g13, g14, g15, g16, g17, g18, g19, g20, g21⟩ := hH
  obtain ⟨o0, o1, o2, o3, o4, o5, o6⟩ := hO
  obtain ⟨w0, w1, w2, w3, w4, w5, w6, w7⟩ := hW
  obtain ⟨⟨ok, hk1, hk2⟩, ⟨oi, hi1, hi2⟩, ⟨om, tmn, hm2, hm3⟩⟩ := hC
  obtain ⟨z0, z1, z2, z3, z4, z5, z6, z7⟩ := hXi
  have HM : HeadMark dk dc ow ia idd xi := True.intro
  have hvl := hV.length
  have htl := hTh.length
  unfold deedLed stackLed stackEs at *
  unfold deedCl
  subst hdu
  k_steps
  · show _ = _
    congr 1; omega
  · show _ = _
    congr 1; omega
  · try dsimp only
    walk_at "mine fin"
    · rw [List.append_nil]; exact hV.take _
    · rw [show ((vos.length : Int) - many).toNat = ts.length - many.toNat by omega]; exact (hTh.mono (by tb_rel)).take _
    · lcg_off
    · exact fun nx Nx Ox Sx => hret _ _ _ _ ((xi, oxi) :: nx) .refl (by assumption) (by assumption) Nx ⟨nx, _, _, rfl, Ox, by omega, by omega, Sx⟩
end
section
set_option maxRecDepth 100000 in
set_option maxHeartbeats 8000000 in
theorem way7_some (w : World) (p : Program) (loose : List Str) (mean : ExcName → Option Value) (mg mb : Str → Option Value)
    {dk dc ow ia idd tl xi : Addr} {oxi : Obj} {mixed : Int} {t1 t2 : Tok} {h1 h2 : Int} {s1 s2 s3 : Tok} {most turn : Int} {ns dcs : List Int} {tm tw : Tok} {ps : Array Value} {o : Obj} {cvs vos ts : List Value} {n n2 n3 : Nat} {pool : List (Addr × Obj)}
    {ck ci cb cm cn cs : Addr} {many : Int} {isl : Bool} {due : Value} {d : Nat}
    (hod : o.IsDictOf (strKind PySem.Challenge.rw_nt0483_01.row.prog w) (deckKvs dc mixed t1 turn t2)) (hI : IntsAre cvs dcs) (hlen : dcs.length ≤ 16) (hV : IntsAre vos ns) (hTh : ThingsAre pool ts ns) (hTb : TableOk ps pool)
    (hH : Heads dk dc ow ia idd tl) (hO : Off7 dk dc ow ia idd tl pool) (hsz : (ns.length : Int) ≤ most) (hC : CellsIn pool ck ci cm dk ia many) (hXi : Own xi dk dc ow ia idd tl pool)
    (hm0 : 3 ≤ most) (hm1 : most ≤ 8) (ht0 : 0 ≤ turn) (ht1 : turn ≤ 900) (hd0 : d < ts.length) (hz : ns[ts.length - 1 - d]? = some 0) (hnz : ∀ j, j < d → ns[ts.length - 1 - j]? ≠ some 0) :
    WayAmb 4 w p loose mean mg mb (deedCl ck ci cb cm cn cs) ow most 7 isl due tm tw ((xi, oxi) :: deedLed ps dk dc ow ia idd tl o cvs vos ts n n2 n3 h1 h2 s1 s2 s3 most pool)
      (fun nx => ∃ nx' turn' ns', nx = (xi, oxi) :: nx' ∧ (∀ p ∈ nx', p.1 ≠ xi) ∧ turn ≤ turn' ∧ turn' ≤ turn + 8 ∧ DeedSt w dk dc ow ia idd mixed t1 h1 h2 s1 s2 s3 most turn' ns' nx') := by
  w_top off
  unfold WayAmb
  have eS : deedScope w = deedScope w := rfl
  conv at eS => rhs; whnf
  have eB : deedTail w = deedTail w := rfl
  conv at eB => rhs; whnf
  rw [eS, eB]
  clear eS eB
  k_fill
  intro dp un gd outer A₀ base h₀ L s Q E B F X₀ N T₀ CH hd hu hret
  have X := X₀.keeps B.stays
  have T := T₀.keeps B.stays
  obtain ⟨g1, g2, g3, g4, g5, g6, g7, g8, g9, g10, g11, g12, g13, g14, g15, g16, g17, g18, g19, g20, g21⟩ := hH
  obtain ⟨o0, o1, o2, o3, o4, o5, o6⟩ := hO
  obtain ⟨⟨ok, hk1, hk2⟩, ⟨oi, hi1, hi2⟩, ⟨om, tmn, hm2, hm3⟩⟩ := hC
  obtain ⟨z0, z1, z2, z3, z4, z5, z6, z7⟩ := hXi
  have HM : HeadMark dk dc ow ia idd xi := True.intro
  have hvl := hV.length
  have htl := hTh.length
  unfold deedLed stackLed stackEs at *
  unfold deedCl
  k_steps
  k_dflt (refine' told_back (lv := 3) (d : Int) ?B ?F ?X ?N ?T ?hk ?hd ?hu ?hlam ?_ ?_; (case B => k_asm); (case F => k_asm); (case X => k_asm); (case N => k_asm); (case T => k_asm); (case hk => first | exact rfl | assumption); (case hd => ktr_room); (case hu => ktr_units); (case hlam => k_mem))
  · intro dp un gd cn cs a ccd cl outer A₀ base h₀ L m s Q E B F X N T hk hd hu hret
    walk_at "mine lam"
    k_steps
    exact hret _ _ _ _ (by k_asm) (by k_asm) ⟨⟨_, rfl⟩, by tb_rel⟩
  · intro u h' tk' F' N'
    k_steps
    rename IntsAre _ (spots _ _) => hJ
    rw [show vos.length = (ts.length - 1 - d) + (d + 1) by omega, spots_last hz (d + 1) (by omega) (fun i h1 h2 => by
      have := hnz (ts.length - 1 - i) (by omega)
      rwa [show ts.length - 1 - (ts.length - 1 - i) = i by omega] at this) (by omega)] at hJ
    have hne : spots ns (ts.length - 1 - d) ++ [((ts.length - 1 - d : Nat) : Int)] ≠ [] := by simp
    have hJ9 := hJ
    obtain ⟨ys₀, t₀, rfl, hJ₀⟩ := ints_snoc_inv hJ9
    intro F2 N2 o2
    replace o2 := allNe_of (off1_ne o2)
    k_steps
    have e : ((d : Int) == (vos.length : Int) - 1 - ((ts.length - 1 - d : Nat) : Int)) = true := by rw [beq_iff_eq]; omega
    rw [e]
    walk_at "mine fin"
    · exact hV
    · exact hTh.mono (by tb_rel)
    · assumption
    · exact fun nx Nx Ox Sx => hret _ _ _ _ ((xi, oxi) :: nx) .refl B (by assumption) Nx ⟨nx, _, _, rfl, Ox, by omega, by omega, Sx⟩
end
section
set_option maxRecDepth 100000 in
set_option maxHeartbeats 8000000 in
theorem way7_none (w : World) (p : Program) (loose : List Str) (mean : ExcName → Option Value) (mg mb : Str → Option Value)
    {dk dc ow ia idd tl xi : Addr} {oxi : Obj} {mixed : Int} {t1 t2 : Tok} {h1 h2 : Int} {s1 s2 s3 : Tok} {most turn : Int} {ns dcs : List Int} {tm tw : Tok} {ps : Array Value} {o : Obj} {cvs vos ts : List Value} {n n2 n3 : Nat} {pool : List (Addr × Obj)}
    {ck ci cb cm cn cs : Addr} {many : Int} {isl : Bool} {due : Value}
    (hod : o.IsDictOf (strKind PySem.Challenge.rw_nt0483_01.row.prog w) (deckKvs dc mixed t1 turn t2)) (hI : IntsAre cvs dcs) (hlen : dcs.length ≤ 16) (hV : IntsAre vos ns) (hTh : ThingsAre pool ts ns) (hTb : TableOk ps pool)
    (hH : Heads dk dc ow ia idd tl) (hO : Off7 dk dc ow ia idd tl pool) (hsz : (ns.length : Int) ≤ most) (hC : CellsIn pool ck ci cm dk ia many) (hXi : Own xi dk dc ow ia idd tl pool)
    (hm0 : 3 ≤ most) (hm1 : most ≤ 8) (ht0 : 0 ≤ turn) (ht1 : turn ≤ 900) (hnz : ∀ j : Nat, ns[j]? ≠ some 0) :
    WayAmb 4 w p loose mean mg mb (deedCl ck ci cb cm cn cs) ow most 7 isl due tm tw ((xi, oxi) :: deedLed ps dk dc ow ia idd tl o cvs vos ts n n2 n3 h1 h2 s1 s2 s3 most pool)
      (fun nx => ∃ nx' turn' ns', nx = (xi, oxi) :: nx' ∧ (∀ p ∈ nx', p.1 ≠ xi) ∧ turn ≤ turn' ∧ turn' ≤ turn + 8 ∧ DeedSt w dk dc ow ia idd mixed t1 h1 h2 s1 s2 s3 most turn' ns' nx') := by
  w_top off
  unfold WayAmb
  have eS : deedScope w = deedScope w := rfl
  conv at eS => rhs; whnf
  have eB : deedTail w = deedTail w := rfl
  conv at eB => rhs; whnf
  rw [eS, eB]
  clear eS eB
  k_fill
  intro dp un gd outer A₀ base h₀ L s Q E B F X₀ N T₀ CH hd hu hret
  have X := X₀.keeps B.stays
  have T := T₀.keeps B.stays
  obtain ⟨g1, g2, g3, g4, g5, g6, g7, g8, g9, g10, g11, g12, g13, g14, g15, g16, g17, g18, g19, g20, g21⟩ := hH
  obtain ⟨o0, o1, o2, o3, o4, o5, o6⟩ := hO
  obtain ⟨⟨ok, hk1, hk2⟩, ⟨oi, hi1, hi2⟩, ⟨om, tmn, hm2, hm3⟩⟩ := hC
  obtain ⟨z0, z1, z2, z3, z4, z5, z6, z7⟩ := hXi
  have HM : HeadMark dk dc ow ia idd xi := True.intro
  have hvl := hV.length
  have htl := hTh.length
  unfold deedLed stackLed stackEs at *
  unfold deedCl
  k_steps
  walk_at "told mark"
  · intro dp un gd cn cs a ccd cl outer A₀ base h₀ L m s Q E B F X N T hk hd hu hret
    walk_at "mine lam"
    k_steps
    rename OutOf _ _ (envX cn cs _ _ _ _ :: _) _ _ _ _ _ => R'
    exact hret _ _ _ _ _ _ _ _ _ (by assumption) R' (by assumption) ⟨by assumption, by tb_rel⟩
  · intro u h' tk' h₀' T' B' X' P' F' N'
    k_steps
    rename IntsAre _ (spots _ _) => hJ
    rw [spots_none hnz] at hJ
    cases hJ
    intro F2 N2 o2
    replace o2 := allNe_of (off1_ne o2)
    k_steps
    show Q (.ret (.bool true)) _
    walk_at "mine fin"
    · exact hV
    · exact hTh.mono (by tb_rel)
    · assumption
    · exact fun nx Nx Ox Sx => hret _ _ _ _ ((xi, oxi) :: nx) T' B' (by assumption) Nx ⟨nx, _, _, rfl, Ox, by omega, by omega, Sx⟩
end
section
theorem said_M23_1 : True := by
  k_with "mine written" => (first | (exact .cons _ _ (.cons _ _ (.cons _ _ (.cons _ _ (.cons _ _ (.cons _ _ (.cons _ _ (.cons _ _ .nil)))))))) | fail)
  k_with "call ref" => (first | ((k_here; (with_reducible show wpAny _ _ (call (Value.ref 194) [Value.ref _, Value.ref _]) _ _ _); k_dflt (refine' Amb.use (pick_spec _ _ _ _ _ _ _ _ _ _ _ _ _ _ _ _ _ _ _ _ _ ?zqhod ?zqhne ?zqr1 ?zqr2 ?zqhI ?zqhlen ?zqt0 ?zqt1 ?zqhs ?zqhI2 ?zqs1 ?zqs2) ?zqB ?zqF ?zqX (news_two ?zqN ?zqe1 ?zqe2) ?zqT ?zqhk ?zqhd ?zqhu ?_; walk_at "sd a"; (case zqe1 => tb_start); (case zqhod => k_asm); (case zqe2 => tb_start); (case zqhne => k_ne); (case zqr1 => k_all); (case zqr2 => k_all); (case zqhI => k_asm); (case zqhlen => lcg_off); (case zqt0 => omega); (case zqt1 => omega); (case zqhs => k_mem); (case zqhI2 => walk_at "mine written"); (case zqs1 => lcg_off); (case zqs2 => lcg_off); walk_at "sd t"); rintro zqr' zqnews' zqh' zqtk' zqF' zqN' ⟨zqk', zqt', zqo', zqcvs', zqcs', zqn', zqt2', zqe1', zqe2', zqhod', zqhI', zqhlen'⟩; subst zqe1' zqe2'; (try k_sweep))) | fail)
  trivial
theorem turned_len {α : Type} (xs : List α) (b : Int) : turnedL xs b = xs.drop ((xs.length : Int) - b.fmod xs.length).toNat ++ xs.take ((xs.length : Int) - b.fmod xs.length).toNat := rfl
theorem turned_length {α : Type} (xs : List α) (b : Int) : (turnedL xs b).length = xs.length := by
  w_top off
  rw [turned_len, List.length_append, List.length_drop, List.length_take]
  generalize ((xs.length : Int) - b.fmod xs.length).toNat = k
  omega
theorem said_M23_2 : True := by
  k_with "my lcg_off" => (first | (((try simp only [turned_length, List.length_append, List.length_dropLast, List.length_cons, List.length_nil, List.length_take, List.length_drop, List.length_reverse, List.length_map]); omega)) | fail)
  trivial
theorem ints_turned {vs : List Value} {ns : List Int} (h : IntsAre vs ns) (b : Int) : IntsAre (turnedL vs b) (turnedL ns b) := by
  rw [turned_len, turned_len, h.length]
  exact (h.drop _).append (h.take _)
/-- the uppermost k turned by b -/
abbrev rolledL {α : Type} (xs : List α) (k b : Int) : List α :=
  if k ≤ 1 then xs else xs.take (xs.length - k.toNat) ++ ((xs.drop (xs.length - k.toNat)).drop (k - b.fmod k).toNat ++ (xs.drop (xs.length - k.toNat)).take (k - b.fmod k).toNat)
theorem things_rolled {led : List (Addr × Obj)} {ts : List Value} {ns : List Int} (h : ThingsAre led ts ns) (k b : Int) : ThingsAre led (rolledL ts k b) (rolledL ns k b) := by
  unfold rolledL
  by_cases hk : k ≤ 1
  · rw [if_pos hk, if_pos hk]; exact h
  · rw [if_neg hk, if_neg hk, h.length]
    exact (h.take _).append (((h.drop _).drop _).append ((h.drop _).take _))
theorem rolled_is {xs : List Int} {k b : Int} (h0 : 0 ≤ k) (h1 : k ≤ xs.length) : rolledL xs k b = xs.take (xs.length - k.toNat) ++ turnedL (xs.drop (xs.length - k.toNat)) b := by
  unfold rolledL
  have hl : (xs.drop (xs.length - k.toNat)).length = k.toNat := by rw [List.length_drop]; omega
  rw [turned_len, hl]
  have hkk : ((k.toNat : Nat) : Int) = k := Int.toNat_of_nonneg h0
  rw [hkk]
  by_cases hk : k ≤ 1
  · rw [if_pos hk]
    have e : xs = xs.take (xs.length - k.toNat) ++ xs.drop (xs.length - k.toNat) := (List.take_append_drop _ _).symm
    have hd : (xs.drop (xs.length - k.toNat)).drop (k - b.fmod k).toNat ++ (xs.drop (xs.length - k.toNat)).take (k - b.fmod k).toNat = xs.drop (xs.length - k.toNat) := by
      rcases (by omega : k = 0 ∨ k = 1) with e0 | e0
      · subst e0
        simp
      · subst e0
        have hf : b.fmod 1 = 0 := by rw [Int.fmod_eq_emod_of_nonneg _ (by decide)]; exact Int.emod_one b
        rw [hf]
        have h1' : (xs.drop (xs.length - (1 : Int).toNat)).length = 1 := hl
        rw [show ((1 : Int) - 0).toNat = 1 from rfl, List.drop_eq_nil_of_le (by omega), List.take_of_length_le (by omega)]
        rfl
    rw [hd]
    exact e
  · rw [if_neg hk]
end
section
set_option maxRecDepth 100000 in
set_option maxHeartbeats 8000000 in
theorem way6_range (w : World) (p : Program) (loose : List Str) (mean : ExcName → Option Value) (mg mb : Str → Option Value)
    {dk dc ow ia idd tl xi : Addr} {oxi : Obj} {mixed : Int} {t1 t2 : Tok} {h1 h2 : Int} {s1 s2 s3 : Tok} {most turn : Int} {ns dcs : List Int} {tm tw : Tok} {ps : Array Value} {o ox : Obj} {cvs vos ts : List Value} {n n2 n3 : Nat} {pool : List (Addr × Obj)}
    {ck ci cb cm cn cs : Addr} {many : Int} {isl : Bool} {due : Value} {xv : Option Value} {du : Tok}
    (hod : o.IsDictOf (strKind PySem.Challenge.rw_nt0483_01.row.prog w) (deckKvs dc mixed t1 turn t2)) (hI : IntsAre cvs dcs) (hlen : dcs.length ≤ 16) (hV : IntsAre vos ns) (hTh : ThingsAre pool ts ns) (hTb : TableOk ps pool)
    (hH : Heads dk dc ow ia idd tl) (hO : Off7 dk dc ow ia idd tl pool) (hsz : (ns.length : Int) ≤ most) (hC : CellsIn pool ck ci cm dk ia many) (hXi : Own xi dk dc ow ia idd tl pool) (hx : ox.data = .cell xv) (hW : Own cb dk dc ow ia idd tl pool) (hcx : Neq cb xi)
    (hm0 : 3 ≤ most) (hm1 : most ≤ 8) (ht0 : 0 ≤ turn) (ht1 : turn ≤ 900) (hmn : many < 0) (hdu : due = .bytes bRange du) :
    WayAmb 4 w p loose mean mg mb (deedCl ck ci cb cm cn cs) ow most 6 isl due tm tw ((cb, ox) :: (xi, oxi) :: deedLed ps dk dc ow ia idd tl o cvs vos ts n n2 n3 h1 h2 s1 s2 s3 most pool)
      (fun nx => ∃ nx' turn' ns', nx = (xi, oxi) :: nx' ∧ (∀ p ∈ nx', p.1 ≠ xi) ∧ turn ≤ turn' ∧ turn' ≤ turn + 8 ∧ DeedSt w dk dc ow ia idd mixed t1 h1 h2 s1 s2 s3 most turn' ns' nx') := by
  w_top off
  unfold WayAmb
  have eS : deedScope w = deedScope w := rfl
  conv at eS => rhs; whnf
  have eB : deedTail w = deedTail w := rfl
  conv at eB => rhs; whnf
  rw [eS, eB]
  clear eS eB
  k_fill
  intro dp un gd outer A₀ base h₀ L s Q E B F X₀ N T₀ CH hd hu hret
  have X := X₀.keeps B.stays
  have T := T₀.keeps B.stays
  obtain ⟨g1, g2, g3, g4, g5, g6, g7, g8, g9, g10, g11, g12, g13, g14, g15, g16, g17, g18, g19, g20, g21⟩ := hH
  obtain ⟨o0, o1, o2, o3, o4, o5, o6⟩ := hO
  obtain ⟨w0, w1, w2, w3, w4, w5, w6, w7⟩ := hW
  obtain ⟨⟨ok, hk1, hk2⟩, ⟨oi, hi1, hi2⟩, ⟨om, tmn, hm2, hm3⟩⟩ := hC
  obtain ⟨z0, z1, z2, z3, z4, z5, z6, z7⟩ := hXi
  have HM : HeadMark dk dc ow ia idd xi := True.intro
  have hvl := hV.length
  have htl := hTh.length
  unfold deedLed stackLed stackEs at *
  unfold deedCl
  subst hdu
  repeat' ((fail_if_success (with_reducible show wpAny _ _ (call (Value.ref 194) _) _ _ _)); (try dsimp only); first | (k_unfold; (try dsimp only)) | walk1)
  k_steps
  walk_at "told range"
  · intro dp un gd cn cs a ccd cl outer A₀ base h₀ L m s Q E B F X N T hk hd hu hret
    walk_at "mine lam"
    k_steps
    rename OutOf _ _ (envX cn cs _ _ _ _ :: _) _ _ _ _ _ => R'
    exact hret _ _ _ _ _ _ _ _ _ (by assumption) R' (by assumption) ⟨by assumption, by tb_rel⟩
  intro u1 h1' tk1' h₀1' T1' B1' X1' P1' F1' N1'
  k_steps
  show Q (.ret (.bool true)) _
  walk_at "mine fin"
  · exact hV
  · exact hTh.mono (by tb_rel)
  · assumption
  · exact fun nx Nx Ox Sx => hret _ _ _ _ ((xi, oxi) :: nx) T1' B1' F1' Nx ⟨nx, _, _, rfl, Ox, by omega, by omega, Sx⟩
end
section
set_option maxRecDepth 100000 in
set_option maxHeartbeats 8000000 in
theorem way6_under (w : World) (p : Program) (loose : List Str) (mean : ExcName → Option Value) (mg mb : Str → Option Value)
    {dk dc ow ia idd tl xi : Addr} {oxi : Obj} {mixed : Int} {t1 t2 : Tok} {h1 h2 : Int} {s1 s2 s3 : Tok} {most turn : Int} {ns dcs : List Int} {tm tw : Tok} {ps : Array Value} {o ox : Obj} {cvs vos ts : List Value} {n n2 n3 : Nat} {pool : List (Addr × Obj)}
    {ck ci cb cm cn cs : Addr} {many : Int} {isl : Bool} {due : Value} {xv : Option Value} {du : Tok}
    (hod : o.IsDictOf (strKind PySem.Challenge.rw_nt0483_01.row.prog w) (deckKvs dc mixed t1 turn t2)) (hI : IntsAre cvs dcs) (hlen : dcs.length ≤ 16) (hV : IntsAre vos ns) (hTh : ThingsAre pool ts ns) (hTb : TableOk ps pool)
    (hH : Heads dk dc ow ia idd tl) (hO : Off7 dk dc ow ia idd tl pool) (hsz : (ns.length : Int) ≤ most) (hC : CellsIn pool ck ci cm dk ia many) (hXi : Own xi dk dc ow ia idd tl pool) (hx : ox.data = .cell xv) (hW : Own cb dk dc ow ia idd tl pool) (hcx : Neq cb xi)
    (hm0 : 3 ≤ most) (hm1 : most ≤ 8) (ht0 : 0 ≤ turn) (ht1 : turn ≤ 900) (hmn : 0 ≤ many) (hmm : (ns.length : Int) < many) (hdu : due = .bytes bUnder du) :
    WayAmb 4 w p loose mean mg mb (deedCl ck ci cb cm cn cs) ow most 6 isl due tm tw ((cb, ox) :: (xi, oxi) :: deedLed ps dk dc ow ia idd tl o cvs vos ts n n2 n3 h1 h2 s1 s2 s3 most pool)
      (fun nx => ∃ nx' turn' ns', nx = (xi, oxi) :: nx' ∧ (∀ p ∈ nx', p.1 ≠ xi) ∧ turn ≤ turn' ∧ turn' ≤ turn + 8 ∧ DeedSt w dk dc ow ia idd mixed t1 h1 h2 s1 s2 s3 most turn' ns' nx') := by
  w_top off
  unfold WayAmb
  have eS : deedScope w = deedScope w := rfl
  conv at eS => rhs; whnf
  have eB : deedTail w = deedTail w := rfl
  conv at eB => rhs; whnf
  rw [eS, eB]
  clear eS eB
  k_fill
  intro dp un gd outer A₀ base h₀ L s Q E B F X₀ N T₀ CH hd hu hret
  have X := X₀.keeps B.stays
  have T := T₀.keeps B.stays
  obtain ⟨g1, g2, g3, g4, g5, g6, g7, g8, g9, g10, g11, g12, g13, g14, g15, g16, g17, g18, g19, g20, g21⟩ := hH
  obtain ⟨o0, o1, o2, o3, o4, o5, o6⟩ := hO
  obtain ⟨w0, w1, w2, w3, w4, w5, w6, w7⟩ := hW
  obtain ⟨⟨ok, hk1, hk2⟩, ⟨oi, hi1, hi2⟩, ⟨om, tmn, hm2, hm3⟩⟩ := hC
  obtain ⟨z0, z1, z2, z3, z4, z5, z6, z7⟩ := hXi
  have HM : HeadMark dk dc ow ia idd xi := True.intro
  have hvl := hV.length
  have htl := hTh.length
  unfold deedLed stackLed stackEs at *
  unfold deedCl
  subst hdu
  repeat' ((fail_if_success (with_reducible show wpAny _ _ (call (Value.ref 194) _) _ _ _)); (try dsimp only); first | (k_unfold; (try dsimp only)) | walk1)
  k_steps
  walk_at "told under"
  · intro dp un gd cn cs a ccd cl outer A₀ base h₀ L m s Q E B F X N T hk hd hu hret
    walk_at "mine lam"
    k_steps
    rename OutOf _ _ (envX cn cs _ _ _ _ :: _) _ _ _ _ _ => R'
    exact hret _ _ _ _ _ _ _ _ _ (by assumption) R' (by assumption) ⟨by assumption, by tb_rel⟩
  intro u1 h1' tk1' h₀1' T1' B1' X1' P1' F1' N1'
  k_steps
  show Q (.ret (.bool true)) _
  walk_at "mine fin"
  · exact hV
  · exact hTh.mono (by tb_rel)
  · assumption
  · exact fun nx Nx Ox Sx => hret _ _ _ _ ((xi, oxi) :: nx) T1' B1' F1' Nx ⟨nx, _, _, rfl, Ox, by omega, by omega, Sx⟩
end
section
set_option maxRecDepth 100000 in
set_option maxHeartbeats 8000000 in
theorem way6_ok (w : World) (p : Program) (loose : List Str) (mean : ExcName → Option Value) (mg mb : Str → Option Value)
    {dk dc ow ia idd tl xi : Addr} {oxi : Obj} {mixed : Int} {t1 t2 : Tok} {h1 h2 : Int} {s1 s2 s3 : Tok} {most turn : Int} {ns dcs : List Int} {tm tw : Tok} {ps : Array Value} {o ox : Obj} {cvs vos ts : List Value} {n n2 n3 : Nat} {pool : List (Addr × Obj)}
    {ck ci cb cm cn cs : Addr} {many : Int} {isl : Bool} {due : Value} {xv : Option Value}
    (hod : o.IsDictOf (strKind PySem.Challenge.rw_nt0483_01.row.prog w) (deckKvs dc mixed t1 turn t2)) (hI : IntsAre cvs dcs) (hlen : dcs.length ≤ 16) (hV : IntsAre vos ns) (hTh : ThingsAre pool ts ns) (hTb : TableOk ps pool)
    (hH : Heads dk dc ow ia idd tl) (hO : Off7 dk dc ow ia idd tl pool) (hsz : (ns.length : Int) ≤ most) (hC : CellsIn pool ck ci cm dk ia many) (hXi : Own xi dk dc ow ia idd tl pool) (hx : ox.data = .cell xv) (hW : Own cb dk dc ow ia idd tl pool) (hcx : Neq cb xi)
    (hm0 : 3 ≤ most) (hm1 : most ≤ 8) (ht0 : 0 ≤ turn) (ht1 : turn ≤ 900) (hmn : 0 ≤ many) (hmm : many ≤ (ns.length : Int)) (hdu : due = .none) :
    WayAmb 4 w p loose mean mg mb (deedCl ck ci cb cm cn cs) ow most 6 isl due tm tw ((cb, ox) :: (xi, oxi) :: deedLed ps dk dc ow ia idd tl o cvs vos ts n n2 n3 h1 h2 s1 s2 s3 most pool)
      (fun nx => ∃ nx' turn' ns', nx = (xi, oxi) :: nx' ∧ (∀ p ∈ nx', p.1 ≠ xi) ∧ turn ≤ turn' ∧ turn' ≤ turn + 8 ∧ DeedSt w dk dc ow ia idd mixed t1 h1 h2 s1 s2 s3 most turn' ns' nx') := by
  w_top off
  unfold WayAmb
  have eS : deedScope w = deedScope w := rfl
  conv at eS => rhs; whnf
  have eB : deedTail w = deedTail w := rfl
  conv at eB => rhs; whnf
  rw [eS, eB]
  clear eS eB
  k_fill
  intro dp un gd outer A₀ base h₀ L s Q E B F X₀ N T₀ CH hd hu hret
  have X := X₀.keeps B.stays
  have T := T₀.keeps B.stays
  obtain ⟨g1, g2, g3, g4, g5, g6, g7, g8, g9, g10, g11, g12, g13, g14, g15, g16, g17, g18, g19, g20, g21⟩ := hH
  obtain ⟨o0, o1, o2, o3, o4, o5, o6⟩ := hO
  obtain ⟨w0, w1, w2, w3, w4, w5, w6, w7⟩ := hW
  obtain ⟨⟨ok, hk1, hk2⟩, ⟨oi, hi1, hi2⟩, ⟨om, tmn, hm2, hm3⟩⟩ := hC
  obtain ⟨z0, z1, z2, z3, z4, z5, z6, z7⟩ := hXi
  have HM : HeadMark dk dc ow ia idd xi := True.intro
  have hvl := hV.length
  have htl := hTh.length
  unfold deedLed stackLed stackEs at *
  unfold deedCl
  subst hdu
  repeat' ((fail_if_success (with_reducible show wpAny _ _ (call (Value.ref 194) _) _ _ _)); (try dsimp only); first | (k_unfold; (try dsimp only)) | walk1)
  k_steps
  try dsimp only
  walk_at "mine fin"
  · exact (hV.take _).append (ints_turned (hV.drop _) _)
  · rw [show ((vos.length : Int) - many).toNat = ns.length - many.toNat by omega, ← rolled_is hmn hmm]; exact things_rolled (hTh.mono (by tb_rel)) _ _
  · lcg_off
  · exact fun nx Nx Ox Sx => hret _ _ _ _ ((xi, oxi) :: nx) .refl (by assumption) (by assumption) Nx ⟨nx, _, _, rfl, Ox, by omega, by omega, Sx⟩
end
section
set_option maxRecDepth 100000 in
set_option maxHeartbeats 8000000 in
theorem draws_src {w : World} {p : Program} {loose : List Str} {mean : ExcName → Option Value} {mg mb : Str → Option Value}
    {dp un : Nat} {gd : Option (List Code)} {cn : Str} {cs : Scope} {a : Addr} {ccd : Value} {ecl cl : List (Str × Addr)} {outer : List Env} {A₀ : Around} {base h₀ : Heap} {L : Addr} {m : Str → Option Value} {s : Shared} {p1 p2 p3 p4 : Pos} {scope : Scope}
    {Fin : Shared → List Value → List (Addr × Obj) → Prop} {dk dc c r : Addr} {o oc : Obj} {mixed turn b : Int} {t1 t2 t₀ u₀ v₀ : Tok} {cvs : List Value} {ns : List Int} {rest : List (Addr × Obj)} {n : Nat} {ow ia idd xi : Addr}
    (_ : HeadMark dk dc ow ia idd xi) (F : Fr h₀ L s.heap m) (N : News h₀ L s.heap ((dk, o) :: (dc, W.listOf cvs.toArray n) :: rest)) (hr : IsRange s.heap r 0 b 1 t₀ u₀ v₀) (hb0 : 0 ≤ b) (hb1 : b ≤ 20)
    (B : Below A₀ base outer h₀) (X : (Mine.hd.heap_1 w.params).In h₀) (T : Top p loose mean mg mb h₀) (hck : cs.kind = .function) (hd : dp + 30 < recursionLimit) (hu : un + 300 < cLine)
    (hod : o.IsDictOf (strKind PySem.Challenge.rw_nt0483_01.row.prog w) (deckKvs dc mixed t1 turn t2)) (hne : @Ne Nat dk dc) (hr1 : ∀ p ∈ rest, p.1 ≠ dk) (hr2 : ∀ p ∈ rest, p.1 ≠ dc) (hI : IntsAre cvs ns) (hlen : ns.length ≤ 16)
    (ht0 : 0 ≤ turn) (ht1 : turn ≤ 900) (hcl : cl.lookup (Str.ofString "deck") = some c) (hc : (c, oc) ∈ rest) (hcd : oc.data = .cell (some (.ref dk)))
    (hsc : scope = { kind := .function, names := [(Str.ofString ".0", .local), (Str.ofString "turn", .local), (Str.ofString "_law_draw", .globalImplicit), (Str.ofString "deck", .free)], isGenerator := false, isCoroutine := false })
    (hxd : ∀ C, (compEnvC scope cl C (envX cn cs L a ccd ecl)).kindOf (Str.ofString "deck") = some .cell)
    (fin : ∀ g ys nw, MyDrawn w dk dc mixed turn t1 rest 4 b.toNat ys nw → Fin { s with heap := g } ys nw) :
    LCg.CompSrc PySem.Challenge.rw_nt0483_01.row.prog w (ktrTop dp un gd cn cs L a ccd ecl outer) h₀ L m (envX cn cs L a ccd ecl)
      (Expr.Call (Expr.Name (Str.ofString "_law_draw") p1) [Expr.Name (Str.ofString "deck") p2, Expr.Constant (.int 4) 0 p3] [] p4) (Str.ofString "turn") scope cl Fin (.ref r) s := by
  w_top off
  have hb : b = (b.toNat : Int) := (Int.toNat_of_nonneg hb0).symm
  have hsmall : Builtin.Range.small 0 b 1 = true := small_one (by omega) (by omega) (by omega) (by omega)
  have hn : Builtin.Range.rangeSize 0 b 1 = (b.toNat : Int) := by
    have := rangeSize_nat 0 b.toNat
    rw [← hb] at this
    simpa using this
  refine LCg.CompSrc.range rfl F N hr hsmall hn (by rw [sizeLine_eq]; omega) fun g => ?_
  exact comp_draws B X T hck hd hu hod hne hr1 hr2 hI hlen ht0 ht1 (by omega) hcl hc hcd hsc hxd fun ys nw h => fin g ys nw h
theorem said_M24_1 : True := by
  k_with "CompSrc" => (first | ((k_here; (with_reducible show LCg.CompSrc _ _ _ _ _ _ _ (Expr.Call _ [_, _] _ _) _ _ _ _ _ _); k_dflt (refine' draws_src (by assumption) ?zqF (news_two ?zqN ?zqe1 ?zqe2) ?zqhr ?zqb0 ?zqb1 ?zqB ?zqX ?zqT ?zqhk ?zqhd ?zqhu ?zqhod ?zqhne ?zqr1 ?zqr2 ?zqhI ?zqhlen ?zqt0 ?zqt1 ?zqcl ?zqhc ?zqcd ?zqsc ?zqxd ?_; (case zqF => k_asm); (case zqN => k_asm); (case zqhr => assumption); (case zqB => k_asm); (case zqX => k_asm); walk_at "sd t"; (case zqcl => exact rfl); (case zqsc => exact rfl); (case zqe1 => tb_start); (case zqhod => k_asm); (case zqe2 => tb_start); (case zqhne => k_ne); (case zqr1 => k_all); (case zqr2 => k_all); (case zqhI => k_asm); (case zqhlen => lcg_off); (case zqt0 => omega); (case zqt1 => omega); (case zqhc => k_mem); (case zqcd => assumption); (case zqxd => exact fun _ => rfl); (case zqb0 => omega); (case zqb1 => omega)); intro zqg' zqys' zqnw' zqhD'; unfold MyDrawn at zqhD'; obtain ⟨zqo', zqcvs', zqcs', zqjs', zqn', zqt2', zqe', zqhod', zqhI', zqhlen', zqhY', zqhjl', zqhjr'⟩ := zqhD'; subst zqe'; (have zqhyl' := IntsAre.length zqhY'))) | fail)
  trivial
theorem offAll_nil {pool : List (Addr × Obj)} : OffAll pool [] := True.intro
theorem offAll_cons {pool r : List (Addr × Obj)} {a : Addr} {o : Obj} (h : ∀ p ∈ pool, p.1 ≠ a) (hr : OffAll pool r) : OffAll pool ((a, o) :: r) := ⟨h, hr⟩
theorem things_made {w : World} {p : Program} {loose : List Str} {mean : ExcName → Option Value} {mg mb : Str → Option Value}
    {dp un : Nat} {gd : Option (List Code)} {cn : Str} {cs : Scope} {a : Addr} {ccd : Value} {ecl cl : List (Str × Addr)} {outer : List Env} {A₀ : Around} {base h₀ : Heap} {L : Addr} {m : Str → Option Value} {s : Shared} {p1 p2 p3 : Pos}
    {S : List (Addr × Obj) → Prop} {Fin : List Value → List (Addr × Obj) → Prop} {news₀ front pool : List (Addr × Obj)} {svs : List Value} {ss : List Int}
    (B : Below A₀ base outer h₀) (X : (Mine.hd.heap_1 w.params).In h₀) (T : Top p loose mean mg mb h₀) (hck : cs.kind = .function) (hd : dp + 30 < recursionLimit) (hu : un + 300 < cLine)
    (hf : Front news₀ front pool) (hI : IntsAre svs ss) (hS : ∀ new, S (front ++ (new ++ pool))) (hoff : OffAll pool front)
    (fin : ∀ ys pool', (∀ p ∈ pool, p ∈ pool') → ThingsAre pool' ys ss → OffAll pool' front → Fin ys (front ++ pool')) :
    LCg.CompRest PySem.Challenge.rw_nt0483_01.row.prog w (ktrTop dp un gd cn cs L a ccd ecl outer) h₀ L m (envX cn cs L a ccd ecl)
      (Expr.Call (Expr.Name (Str.ofString "_law_thing") p1) [Expr.Name (Str.ofString "one") p2] [] p3) (Str.ofString "one")
      { kind := .function, names := [(Str.ofString ".0", .local), (Str.ofString "one", .local), (Str.ofString "_law_thing", .globalImplicit)], isGenerator := false, isCoroutine := false } cl s S (fun i v => svs.toArray[i]? = some v) Fin svs.toArray.size 0 [] news₀ :=
  comp_things B X T hck hd hu hf hI hS fun ys nw h => by
    obtain ⟨pool', rfl, a, b, c⟩ := h.out hoff
    exact fin ys pool' a b c
/-- a lambda's code object goes into the pool -/
theorem code_down {h₀ h : Heap} {L : Addr} {q1 q2 : Addr × Obj} {l front pool : List (Addr × Obj)} {ps : Array Value} {P : Prop} (N : News h₀ L h (q1 :: q2 :: l)) (f : Front l front pool) (off : OffAll (q2 :: pool) (q1 :: front)) (hB : TableOk ps (q2 :: pool))
    (k : ∀ pool2, (∀ p ∈ pool, p ∈ pool2) → q2 ∈ pool2 → OffAll pool2 (q1 :: front) → TableOk ps pool2 → News h₀ L h (q1 :: (front ++ pool2)) → P) : P := by
  have e := f.eq
  subst e
  refine k (q2 :: pool) (fun p hp => .tail _ hp) (.head _) off hB (news_sub N fun p hp => ?_)
  rcases List.mem_cons.mp hp with rfl | hp
  · exact .head _
  rcases List.mem_append.mp hp with hp | hp
  · exact .tail _ (.tail _ (List.mem_append_left _ hp))
  rcases List.mem_cons.mp hp with rfl | hp
  · exact .tail _ (.head _)
  · exact .tail _ (.tail _ (List.mem_append_right _ hp))
theorem said_M24_2 : True := by
  k_with "m offall" => (first | (first | with_reducible exact offAll_nil | (with_reducible refine' offAll_cons ?zqa ?zqb; (case zqa => k_slotget); (case zqb => walk_at "m offall"))) | fail)
  k_with "CompSrc" => (first | ((k_here; (with_reducible show LCg.CompSrc _ _ _ _ _ _ _ (Expr.Call _ [_] _ _) _ _ _ _ _ _); k_dflt (refine LCg.CompSrc.ledger (by rfl) (by k_asm) (by k_asm) (by k_mem) (by size_fits) ?_; intro zqg'; refine' things_made ?zqB ?zqX ?zqT ?zqhk ?zqhd ?zqhu ?zqhf ?zqhI ?zqhS ?zqoff ?_; (case zqB => k_asm); (case zqX => k_asm); walk_at "sd t"; (case zqhf => tb_start); (case zqhI => walk_at "mine ints"); (case zqhS => exact fun new => Or.inr ⟨_, List.mem_append_left _ (by k_mem), rfl, _, rfl⟩); (case zqoff => walk_at "m offall")); intro zqys' zqpool' zqhsub' zqhT' zqho'; (have zqhl' := ThingsAre.length zqhT'); (try dsimp only [List.cons_append, List.nil_append]))) | fail)
  trivial
end
section
set_option maxRecDepth 100000 in
set_option maxHeartbeats 8000000 in
theorem way0 (w : World) (p : Program) (loose : List Str) (mean : ExcName → Option Value) (mg mb : Str → Option Value)
    {dk dc ow ia idd tl xi : Addr} {oxi : Obj} {mixed : Int} {t1 t2 : Tok} {h1 h2 : Int} {s1 s2 s3 : Tok} {most turn : Int} {ns dcs : List Int} {tm tw : Tok} {ps : Array Value} {o ox : Obj} {cvs vos ts : List Value} {n n2 n3 : Nat} {pool : List (Addr × Obj)}
    {ck ci cb cm cn cs : Addr} {many : Int} {isl : Bool} {due : Value} {xv : Option Value}
    (hod : o.IsDictOf (strKind PySem.Challenge.rw_nt0483_01.row.prog w) (deckKvs dc mixed t1 turn t2)) (hI : IntsAre cvs dcs) (hlen : dcs.length ≤ 16) (hV : IntsAre vos ns) (hTh : ThingsAre pool ts ns) (hTb : TableOk ps pool)
    (hH : Heads dk dc ow ia idd tl) (hO : Off7 dk dc ow ia idd tl pool) (hsz : (ns.length : Int) ≤ most) (hC : CellsIn pool ck ci cm dk ia many) (hXi : Own xi dk dc ow ia idd tl pool) (hx : ox.data = .cell xv) (hW : Own cs dk dc ow ia idd tl pool) (hcx : Neq cs xi)
    (hm0 : 3 ≤ most) (hm1 : most ≤ 8) (ht0 : 0 ≤ turn) (ht1 : turn ≤ 900) (hmn : -1 ≤ many) (hmm : many ≤ 8) :
    WayAmb 4 w p loose mean mg mb (deedCl ck ci cb cm cn cs) ow most 0 isl due tm tw ((cs, ox) :: (xi, oxi) :: deedLed ps dk dc ow ia idd tl o cvs vos ts n n2 n3 h1 h2 s1 s2 s3 most pool)
      (fun nx => ∃ nx' turn' ns', nx = (xi, oxi) :: nx' ∧ (∀ p ∈ nx', p.1 ≠ xi) ∧ turn ≤ turn' ∧ turn' ≤ turn + 8 ∧ DeedSt w dk dc ow ia idd mixed t1 h1 h2 s1 s2 s3 most turn' ns' nx') := by
  w_top off
  unfold WayAmb
  have eS : deedScope w = deedScope w := rfl
  conv at eS => rhs; whnf
  have eB : deedTail w = deedTail w := rfl
  conv at eB => rhs; whnf
  rw [eS, eB]
  clear eS eB
  k_fill
  intro dp un gd outer A₀ base h₀ L s Q E B F X₀ N T₀ CH hd hu hret
  have X := X₀.keeps B.stays
  have T := T₀.keeps B.stays
  obtain ⟨g1, g2, g3, g4, g5, g6, g7, g8, g9, g10, g11, g12, g13, g14, g15, g16, g17, g18, g19, g20, g21⟩ := hH
  obtain ⟨o0, o1, o2, o3, o4, o5, o6⟩ := hO
  obtain ⟨w0, w1, w2, w3, w4, w5, w6, w7⟩ := hW
  obtain ⟨⟨ok, hk1, hk2⟩, ⟨oi, hi1, hi2⟩, ⟨om, tmn, hm2, hm3⟩⟩ := hC
  obtain ⟨z0, z1, z2, z3, z4, z5, z6, z7⟩ := hXi
  have HM : HeadMark dk dc ow ia idd xi := True.intro
  have hvl := hV.length
  have htl := hTh.length
  unfold deedLed stackLed stackEs at *
  unfold deedCl
  have hq0 : -1 ≤ many.fdiv 2 := by rw [Int.fdiv_eq_ediv_of_nonneg _ (by decide)]; omega
  have hq1 : many.fdiv 2 ≤ 4 := by rw [Int.fdiv_eq_ediv_of_nonneg _ (by decide)]; omega
  k_steps
  · refine' code_down ?N ?f ?o (by assumption) ?_
    case N => assumption
    case f => tb_start
    case o => walk_at "m offall"
    intro pool2 hs2 hm2' ho2 hT2 N2
    clear hTb
    try simp only [List.cons_append, List.nil_append] at N2
    walk_at "told over"
    · intro dp un gd cn cs a ccd cl outer A₀ base h₀ L m s Q E B F X N T hk hd hu hret
      walk_at "mine lam"
      k_steps
      rename OutOf _ _ (envX cn cs _ _ _ _ :: _) _ _ _ _ _ => R'
      exact hret _ _ _ _ _ _ _ _ _ (by assumption) R' (by assumption) ⟨by assumption, by tb_rel⟩
    · intro u h' tk' h₀' T' B' X' P' F' N'
      k_steps
      show Q (.ret (.bool true)) _
      walk_at "mine fin"
      · exact hV
      · exact hTh.mono (by tb_rel)
      · assumption
      · exact fun nx Nx Ox Sx => hret _ _ _ _ ((xi, oxi) :: nx) T' B' F' Nx ⟨nx, _, _, rfl, Ox, by omega, by omega, Sx⟩
  · try dsimp only
    walk_at "mine fin"
    · exact hV.append (by assumption)
    · exact (hTh.mono (by tb_rel)).append (ThingsAre.mono (by assumption) (by tb_rel))
    · lcg_off
    · exact fun nx Nx Ox Sx => hret _ _ _ _ ((xi, oxi) :: nx) .refl (by assumption) (by assumption) Nx ⟨nx, _, _, rfl, Ox, by omega, by omega, Sx⟩
end
section
theorem things_snoc_inv {led : List (Addr × Obj)} {vs : List Value} : ∀ {ns : List Int} {k : Int}, ThingsAre led vs (ns ++ [k]) → ∃ vs₀ v, vs = vs₀ ++ [v] ∧ ThingsAre led vs₀ ns ∧ ThingIn led v k := by
  w_top off
  induction vs with
  | nil => intro ns k h; have := h.length; simp at this
  | cons v r ih =>
    intro ns k h
    cases ns with
    | nil =>
      cases h with
      | cons a h' => cases h'; exact ⟨[], v, rfl, .nil, a⟩
    | cons n ns =>
      cases h with
      | cons a h' =>
        obtain ⟨r₀, v', rfl, h₀, hv⟩ := ih h'
        exact ⟨_ :: r₀, v', rfl, .cons a h₀, hv⟩
/-- the first that holds -/
theorem first_of (P : Nat → Prop) : ∀ n, (∀ j, j < n → ¬ P j) ∨ ∃ d, d < n ∧ P d ∧ ∀ j, j < d → ¬ P j
  | 0 => .inl fun j h => absurd h (Nat.not_lt_zero j)
  | n + 1 => by
    rcases first_of P n with h | ⟨d, h1, h2, h3⟩
    · by_cases hp : P n
      · exact .inr ⟨n, Nat.lt_succ_self n, hp, h⟩
      · exact .inl fun j hj => (Nat.lt_succ_iff_lt_or_eq.mp hj).elim (h j) fun e => e ▸ hp
    · exact .inr ⟨d, Nat.lt_succ_of_lt h1, h2, h3⟩
/-- no two of the six cells are one -/
structure CellsApart (ck ci cb cm cn cs : Addr) : Prop where
  c1 : Neq ck ci
  c2 : Neq ck cb
  c3 : Neq ck cm
  c4 : Neq ck cn
  c5 : Neq ck cs
  c6 : Neq ci cb
  c7 : Neq ci cm
  c8 : Neq ci cn
  c9 : Neq ci cs
  c10 : Neq cb cm
  c11 : Neq cb cn
  c12 : Neq cb cs
  c13 : Neq cm cn
  c14 : Neq cm cs
  c15 : Neq cn cs
theorem Off7.sub {dk dc ow ia idd tl : Addr} {pool pool' : List (Addr × Obj)} (h : Off7 dk dc ow ia idd tl pool) (hs : ∀ p ∈ pool', p ∈ pool) : Off7 dk dc ow ia idd tl pool' :=
  ⟨forall_sub h.o0 hs, forall_sub h.o1 hs, forall_sub h.o2 hs, forall_sub h.o3 hs, forall_sub h.o4 hs, forall_sub h.o5 hs, forall_sub h.o6 hs⟩
theorem Off7.cons {dk dc ow ia idd tl x : Addr} {o : Obj} {pool pool' : List (Addr × Obj)} (h : Own x dk dc ow ia idd tl pool') (hr : Off7 dk dc ow ia idd tl pool) : Off7 dk dc ow ia idd tl ((x, o) :: pool) := by
  constructor <;> refine List.forall_mem_cons.mpr ⟨?_, ?_⟩
  · exact h.w0.ne
  · exact hr.o0
  · exact h.w1.ne
  · exact hr.o1
  · exact h.w2.ne
  · exact hr.o2
  · exact h.w3.ne
  · exact hr.o3
  · exact h.w4.ne
  · exact hr.o4
  · exact h.w5.ne
  · exact hr.o5
  · exact h.w6.ne
  · exact hr.o6
/-- a cell's own facts, the pool enlarged -/
theorem Own.more {dk dc ow ia idd tl x : Addr} {pool pool' : List (Addr × Obj)} (h : Own x dk dc ow ia idd tl pool) (h' : ∀ p ∈ pool', p.1 ≠ x) : Own x dk dc ow ia idd tl pool' := ⟨h.w0, h.w1, h.w2, h.w3, h.w4, h.w5, h.w6, h'⟩
set_option maxHeartbeats 4000000 in
theorem ways (w : World) (p : Program) (loose : List Str) (mean : ExcName → Option Value) (mg mb : Str → Option Value)
    {dk dc ow ia idd tl xi : Addr} {oxi : Obj} {mixed : Int} {t1 t2 : Tok} {h1 h2 : Int} {s1 s2 s3 : Tok} {most turn : Int} {ns dcs : List Int} {tm tw tmn : Tok} {ps : Array Value} {o os on ob om oi ok : Obj} {cvs vos ts : List Value} {n n2 n3 : Nat} {pool : List (Addr × Obj)}
    {ck ci cb cm cn cs : Addr} {many way : Int} {isl : Bool} {due : Value} {vs vn vb : Option Value}
    (hw0 : 0 ≤ way) (hw1 : way < 9) (hn0 : -1 ≤ many) (hn1 : many ≤ 8) (hdue : DueIs many (vos.length : Int) due)
    (hod : o.IsDictOf (strKind PySem.Challenge.rw_nt0483_01.row.prog w) (deckKvs dc mixed t1 turn t2)) (hI : IntsAre cvs dcs) (hlen : dcs.length ≤ 16) (hV : IntsAre vos ns) (hTh : ThingsAre pool ts ns) (hTb : TableOk ps pool)
    (hH : Heads dk dc ow ia idd tl) (hO : Off7 dk dc ow ia idd tl pool) (hsz : (ns.length : Int) ≤ most)
    (hs : os.data = .cell vs) (hn : on.data = .cell vn) (hb : ob.data = .cell vb) (hm : om.data = .cell (some (.int many tmn))) (hi : oi.data = .cell (some (.ref ia))) (hk : ok.data = .cell (some (.ref dk)))
    (k1 : Own ck dk dc ow ia idd tl pool) (k2 : Own ci dk dc ow ia idd tl pool) (k3 : Own cb dk dc ow ia idd tl pool) (k4 : Own cm dk dc ow ia idd tl pool) (k5 : Own cn dk dc ow ia idd tl pool) (k6 : Own cs dk dc ow ia idd tl pool) (hA : CellsApart ck ci cb cm cn cs)
    (hXi : Own xi dk dc ow ia idd tl pool) (x1 : Neq ck xi) (x2 : Neq ci xi) (x3 : Neq cb xi) (x4 : Neq cm xi) (x5 : Neq cn xi) (x6 : Neq cs xi)
    (hm0 : 3 ≤ most) (hm1 : most ≤ 8) (ht0 : 0 ≤ turn) (ht1 : turn ≤ 900) :
    WayAmb 4 w p loose mean mg mb (deedCl ck ci cb cm cn cs) ow most way isl due tm tw ((cs, os) :: (cn, on) :: (cb, ob) :: (cm, om) :: (ci, oi) :: (ck, ok) :: (xi, oxi) :: deedLed ps dk dc ow ia idd tl o cvs vos ts n n2 n3 h1 h2 s1 s2 s3 most pool)
      (fun nx => ∃ nx' turn' ns', nx = (xi, oxi) :: nx' ∧ (∀ p ∈ nx', p.1 ≠ xi) ∧ turn ≤ turn' ∧ turn' ≤ turn + 8 ∧ DeedSt w dk dc ow ia idd mixed t1 h1 h2 s1 s2 s3 most turn' ns' nx') := by
  have hvl := hV.length
  have htl := hTh.length
  obtain ⟨a1, a2, a3, a4, a5, a6, a7, a8, a9, a10, a11, a12, a13, a14, a15⟩ := hA
  -- the pool with all the cells
  have hOA : Off7 dk dc ow ia idd tl ((cs, os) :: (cn, on) :: (cb, ob) :: (cm, om) :: (ci, oi) :: (ck, ok) :: pool) := .cons k6 (.cons k5 (.cons k3 (.cons k4 (.cons k2 (.cons k1 hO)))))
  have hOs : Off7 dk dc ow ia idd tl ((cn, on) :: (cb, ob) :: (cm, om) :: (ci, oi) :: (ck, ok) :: pool) := .cons k5 (.cons k3 (.cons k4 (.cons k2 (.cons k1 hO))))
  have hOn : Off7 dk dc ow ia idd tl ((cs, os) :: (cb, ob) :: (cm, om) :: (ci, oi) :: (ck, ok) :: pool) := .cons k6 (.cons k3 (.cons k4 (.cons k2 (.cons k1 hO))))
  have hOb : Off7 dk dc ow ia idd tl ((cs, os) :: (cn, on) :: (cm, om) :: (ci, oi) :: (ck, ok) :: pool) := .cons k6 (.cons k5 (.cons k4 (.cons k2 (.cons k1 hO))))
  have hWs : Own cs dk dc ow ia idd tl ((cn, on) :: (cb, ob) :: (cm, om) :: (ci, oi) :: (ck, ok) :: pool) := k6.more (List.forall_mem_cons.mpr ⟨a15.ne, List.forall_mem_cons.mpr ⟨a12.ne, List.forall_mem_cons.mpr ⟨a14.ne, List.forall_mem_cons.mpr ⟨a9.ne, List.forall_mem_cons.mpr ⟨a5.ne, k6.w7⟩⟩⟩⟩⟩)
  have hWn : Own cn dk dc ow ia idd tl ((cs, os) :: (cb, ob) :: (cm, om) :: (ci, oi) :: (ck, ok) :: pool) := k5.more (List.forall_mem_cons.mpr ⟨a15.ne', List.forall_mem_cons.mpr ⟨a11.ne, List.forall_mem_cons.mpr ⟨a13.ne, List.forall_mem_cons.mpr ⟨a8.ne, List.forall_mem_cons.mpr ⟨a4.ne, k5.w7⟩⟩⟩⟩⟩)
  have hWb : Own cb dk dc ow ia idd tl ((cs, os) :: (cn, on) :: (cm, om) :: (ci, oi) :: (ck, ok) :: pool) := k3.more (List.forall_mem_cons.mpr ⟨a12.ne', List.forall_mem_cons.mpr ⟨a11.ne', List.forall_mem_cons.mpr ⟨a10.ne', List.forall_mem_cons.mpr ⟨a6.ne, List.forall_mem_cons.mpr ⟨a2.ne, k3.w7⟩⟩⟩⟩⟩)
  have xA : Own xi dk dc ow ia idd tl ((cs, os) :: (cn, on) :: (cb, ob) :: (cm, om) :: (ci, oi) :: (ck, ok) :: pool) := hXi.more (List.forall_mem_cons.mpr ⟨x6.ne, List.forall_mem_cons.mpr ⟨x5.ne, List.forall_mem_cons.mpr ⟨x3.ne, List.forall_mem_cons.mpr ⟨x4.ne, List.forall_mem_cons.mpr ⟨x2.ne, List.forall_mem_cons.mpr ⟨x1.ne, hXi.w7⟩⟩⟩⟩⟩⟩)
  have xS : Own xi dk dc ow ia idd tl ((cn, on) :: (cb, ob) :: (cm, om) :: (ci, oi) :: (ck, ok) :: pool) := xA.more (forall_sub xA.w7 (by tb_rel))
  have xN : Own xi dk dc ow ia idd tl ((cs, os) :: (cb, ob) :: (cm, om) :: (ci, oi) :: (ck, ok) :: pool) := xA.more (forall_sub xA.w7 (by tb_rel))
  have xB : Own xi dk dc ow ia idd tl ((cs, os) :: (cn, on) :: (cm, om) :: (ci, oi) :: (ck, ok) :: pool) := xA.more (forall_sub xA.w7 (by tb_rel))
  have inA : ∀ q ∈ pool, q ∈ (cs, os) :: (cn, on) :: (cb, ob) :: (cm, om) :: (ci, oi) :: (ck, ok) :: pool := by tb_rel
  have inS : ∀ q ∈ pool, q ∈ (cn, on) :: (cb, ob) :: (cm, om) :: (ci, oi) :: (ck, ok) :: pool := by tb_rel
  have inN : ∀ q ∈ pool, q ∈ (cs, os) :: (cb, ob) :: (cm, om) :: (ci, oi) :: (ck, ok) :: pool := by tb_rel
  have inB : ∀ q ∈ pool, q ∈ (cs, os) :: (cn, on) :: (cm, om) :: (ci, oi) :: (ck, ok) :: pool := by tb_rel
  have cA : CellsIn ((cs, os) :: (cn, on) :: (cb, ob) :: (cm, om) :: (ci, oi) :: (ck, ok) :: pool) ck ci cm dk ia many := ⟨⟨ok, by k_mem, hk⟩, ⟨oi, by k_mem, hi⟩, ⟨om, tmn, by k_mem, hm⟩⟩
  have cS : CellsIn ((cn, on) :: (cb, ob) :: (cm, om) :: (ci, oi) :: (ck, ok) :: pool) ck ci cm dk ia many := ⟨⟨ok, by k_mem, hk⟩, ⟨oi, by k_mem, hi⟩, ⟨om, tmn, by k_mem, hm⟩⟩
  have cN : CellsIn ((cs, os) :: (cb, ob) :: (cm, om) :: (ci, oi) :: (ck, ok) :: pool) ck ci cm dk ia many := ⟨⟨ok, by k_mem, hk⟩, ⟨oi, by k_mem, hi⟩, ⟨om, tmn, by k_mem, hm⟩⟩
  have cB : CellsIn ((cs, os) :: (cn, on) :: (cm, om) :: (ci, oi) :: (ck, ok) :: pool) ck ci cm dk ia many := ⟨⟨ok, by k_mem, hk⟩, ⟨oi, by k_mem, hi⟩, ⟨om, tmn, by k_mem, hm⟩⟩
  unfold WayAmb
  intro dp un gd outer A₀ base h₀ L s Q E B F X N T CH hd hu hret
  have NA : News h₀ L s.heap ((xi, oxi) :: deedLed ps dk dc ow ia idd tl o cvs vos ts n n2 n3 h1 h2 s1 s2 s3 most ((cs, os) :: (cn, on) :: (cb, ob) :: (cm, om) :: (ci, oi) :: (ck, ok) :: pool)) := news_sub N (by unfold deedLed stackLed; tb_rel)
  have NS : News h₀ L s.heap ((cs, os) :: (xi, oxi) :: deedLed ps dk dc ow ia idd tl o cvs vos ts n n2 n3 h1 h2 s1 s2 s3 most ((cn, on) :: (cb, ob) :: (cm, om) :: (ci, oi) :: (ck, ok) :: pool)) := news_sub N (by unfold deedLed stackLed; tb_rel)
  have NN : News h₀ L s.heap ((cn, on) :: (xi, oxi) :: deedLed ps dk dc ow ia idd tl o cvs vos ts n n2 n3 h1 h2 s1 s2 s3 most ((cs, os) :: (cb, ob) :: (cm, om) :: (ci, oi) :: (ck, ok) :: pool)) := news_sub N (by unfold deedLed stackLed; tb_rel)
  have NB : News h₀ L s.heap ((cb, ob) :: (xi, oxi) :: deedLed ps dk dc ow ia idd tl o cvs vos ts n n2 n3 h1 h2 s1 s2 s3 most ((cs, os) :: (cn, on) :: (cm, om) :: (ci, oi) :: (ck, ok) :: pool)) := news_sub N (by unfold deedLed stackLed; tb_rel)
  have hTA := hTh.mono inA
  have hTS := hTh.mono inS
  have hTN := hTh.mono inN
  have hTB := hTh.mono inB
  have hBA := hTb.mono inA
  have hBS := hTb.mono inS
  have hBN := hTb.mono inN
  have hBB := hTb.mono inB
  rcases (by omega : way = 0 ∨ (1 ≤ way ∧ way < 3) ∨ way = 3 ∨ way = 4 ∨ way = 5 ∨ way = 6 ∨ way = 7 ∨ way = 8) with e | ⟨e, e'⟩ | e | e | e | e | e | e
  · subst e
    exact way0 w p loose mean mg mb hod hI hlen hV hTS hBS hH hOs hsz cS xS hs hWs x6 hm0 hm1 ht0 ht1 hn0 hn1 dp un gd outer A₀ base h₀ L s Q E B F X NS T CH hd hu hret
  · exact way1 w p loose mean mg mb e e' hod hI hlen hV hTN hBN hH hOn hsz cN xN hn hWn x5 hm0 hm1 ht0 ht1 dp un gd outer A₀ base h₀ L s Q E B F X NN T CH hd hu hret
  · subst e
    rcases List.eq_nil_or_concat ns with hns | ⟨ns₀, k, hns⟩
    · exact way3_none w p loose mean mg mb hod hI hlen hV hTA hBA hH hOA hsz cA xA hm0 hm1 ht0 ht1 hns dp un gd outer A₀ base h₀ L s Q E B F X NA T CH hd hu hret
    · have hns' : ns = ns₀ ++ [k] := by rw [hns, List.concat_eq_append]
      have hV9 := hV; have hT9 := hTA
      rw [hns'] at hV9 hT9
      obtain ⟨vs₀, t, hvs, hV₀⟩ := ints_snoc_inv hV9
      obtain ⟨ts₀, v, hts, hT₀, hv⟩ := things_snoc_inv hT9
      exact way3_some w p loose mean mg mb hod hI hlen hV hTA hBA hH hOA hsz cA xA hm0 hm1 ht0 ht1 hns' hvs hts hV₀ hT₀ hv dp un gd outer A₀ base h₀ L s Q E B F X NA T CH hd hu hret
  · subst e
    rcases (by omega : many < 0 ∨ (0 ≤ many ∧ (ns.length : Int) ≤ many) ∨ (0 ≤ many ∧ many < (ns.length : Int))) with hq | ⟨hq, hq'⟩ | ⟨hq, hq'⟩
    · exact way4_range w p loose mean mg mb hod hI hlen hV hTA hBA hH hOA hsz cA xA hm0 hm1 ht0 ht1 hq dp un gd outer A₀ base h₀ L s Q E B F X NA T CH hd hu hret
    · exact way4_under w p loose mean mg mb hod hI hlen hV hTA hBA hH hOA hsz cA xA hm0 hm1 ht0 ht1 hq hq' dp un gd outer A₀ base h₀ L s Q E B F X NA T CH hd hu hret
    · have hlt : ((ts.length : Int) - 1 - many).toNat < ts.length := by omega
      have hv : ts[((ts.length : Int) - 1 - many).toNat]? = some ts[((ts.length : Int) - 1 - many).toNat] := List.getElem?_eq_getElem hlt
      obtain ⟨k, hk9, hth⟩ := hTA.at _ _ hv
      exact way4_ok w p loose mean mg mb hod hI hlen hV hTA hBA hH hOA hsz cA xA hm0 hm1 ht0 ht1 hq hq' hth hv (by rw [hvl, ← htl]; exact hk9) dp un gd outer A₀ base h₀ L s Q E B F X NA T CH hd hu hret
  · subst e
    rcases hdue with ⟨hq, u, hu9⟩ | ⟨hq, hq', u, hu9⟩ | ⟨hq, hq', hu9⟩
    · exact way5_range w p loose mean mg mb hod hI hlen hV hTA hBA hH hOA hsz cA xA hm0 hm1 ht0 ht1 hq hu9 dp un gd outer A₀ base h₀ L s Q E B F X NA T CH hd hu hret
    · exact way5_under w p loose mean mg mb hod hI hlen hV hTA hBA hH hOA hsz cA xA hm0 hm1 ht0 ht1 hq (by omega) hu9 dp un gd outer A₀ base h₀ L s Q E B F X NA T CH hd hu hret
    · exact way5_ok w p loose mean mg mb hod hI hlen hV hTS hBS hH hOs hsz cS xS hs hWs x6 hm0 hm1 ht0 ht1 hq (by omega) hu9 dp un gd outer A₀ base h₀ L s Q E B F X NS T CH hd hu hret
  · subst e
    rcases hdue with ⟨hq, u, hu9⟩ | ⟨hq, hq', u, hu9⟩ | ⟨hq, hq', hu9⟩
    · exact way6_range w p loose mean mg mb hod hI hlen hV hTB hBB hH hOb hsz cB xB hb hWb x3 hm0 hm1 ht0 ht1 hq hu9 dp un gd outer A₀ base h₀ L s Q E B F X NB T CH hd hu hret
    · exact way6_under w p loose mean mg mb hod hI hlen hV hTB hBB hH hOb hsz cB xB hb hWb x3 hm0 hm1 ht0 ht1 hq (by omega) hu9 dp un gd outer A₀ base h₀ L s Q E B F X NB T CH hd hu hret
    · exact way6_ok w p loose mean mg mb hod hI hlen hV hTB hBB hH hOb hsz cB xB hb hWb x3 hm0 hm1 ht0 ht1 hq (by omega) hu9 dp un gd outer A₀ base h₀ L s Q E B F X NB T CH hd hu hret
  · subst e
    rcases first_of (fun d => ns[ts.length - 1 - d]? = some 0) ts.length with hz | ⟨d, hd0, hz, hnz⟩
    · refine way7_none w p loose mean mg mb hod hI hlen hV hTA hBA hH hOA hsz cA xA hm0 hm1 ht0 ht1 (fun j hj => ?_) dp un gd outer A₀ base h₀ L s Q E B F X NA T CH hd hu hret
      have hjl : j < ns.length := (List.getElem?_eq_some_iff.mp hj).1
      refine hz (ts.length - 1 - j) (by omega) ?_
      rw [show ts.length - 1 - (ts.length - 1 - j) = j by omega]
      exact hj
    · exact way7_some w p loose mean mg mb hod hI hlen hV hTA hBA hH hOA hsz cA xA hm0 hm1 ht0 ht1 hd0 hz hnz dp un gd outer A₀ base h₀ L s Q E B F X NA T CH hd hu hret
  · subst e
    exact way8 w p loose mean mg mb hod hI hlen hV hTA hBA hH hOA hsz cA xA hm0 hm1 ht0 ht1 dp un gd outer A₀ base h₀ L s Q E B F X NA T CH hd hu hret
end
section
theorem with_ints {P : Prop} {a b : Int} (_ : a < 9) (_ : b < 10) (k : ∀ x y : Int, x = a → y = b → P) : P := k a b rfl rfl
set_option maxRecDepth 100000 in
set_option maxHeartbeats 8000000 in
theorem deed_ok (w : World) (p : Program) (loose : List Str) (mean : ExcName → Option Value) (mg mb : Str → Option Value)
    {dk dc ow ia idd xi : Addr} {oxi : Obj} {mixed : Int} {t1 : Tok} {h1 h2 : Int} {s1 s2 s3 : Tok} {most turn : Int} {ns : List Int} {nx : List (Addr × Obj)} {tm : Tok}
    (S : DeedSt w dk dc ow ia idd mixed t1 h1 h2 s1 s2 s3 most turn ns nx) (hoff : ∀ p ∈ nx, p.1 ≠ xi) (hm0 : 3 ≤ most) (hm1 : most ≤ 8) (ht0 : 0 ≤ turn) (ht1 : turn ≤ 800) :
    AmbD 5 w p loose mean mg mb 227 [.ref dk, .ref ia, .ref ow, .int most tm] ((xi, oxi) :: nx)
      (fun r news' => r = .bool true ∧ ∃ nx' turn' ns', news' = (xi, oxi) :: nx' ∧ (∀ p ∈ nx', p.1 ≠ xi) ∧ turn ≤ turn' ∧ turn' ≤ turn + 10 ∧ DeedSt w dk dc ow ia idd mixed t1 h1 h2 s1 s2 s3 most turn' ns' nx') := by
  w_top off
  unfold AmbD
  k_fill
  intro dp un gd cn cs a ccd cl outer A₀ base h₀ L m s Q E B F X N T CH hk hd hu hret
  have X₀ := X.keeps B.stays
  have T₀ := T.keeps B.stays
  obtain ⟨ps, o, cvs, dcs, t2, n, vos, n2, tl, ts, n3, pool, rfl, hod, hI, hlen, hV, hTh, hTb, hH, hO, hsz⟩ := S
  obtain ⟨g1, g2, g3, g4, g5, g6, g7, g8, g9, g10, g11, g12, g13, g14, g15, g16, g17, g18, g19, g20, g21⟩ := hH
  obtain ⟨o0, o1, o2, o3, o4, o5, o6⟩ := hO
  have hXi : Own xi dk dc ow ia idd tl pool := ⟨⟨Ne.symm (hoff _ (.head _))⟩, ⟨Ne.symm (hoff _ (.tail _ (.head _)))⟩, ⟨Ne.symm (hoff _ (.tail _ (.tail _ (.head _))))⟩, ⟨Ne.symm (hoff _ (.tail _ (.tail _ (.tail _ (.head _)))))⟩, ⟨Ne.symm (hoff _ (.tail _ (.tail _ (.tail _ (.tail _ (.head _))))))⟩, ⟨Ne.symm (hoff _ (.tail _ (.tail _ (.tail _ (.tail _ (.tail _ (.head _)))))))⟩, ⟨Ne.symm (hoff _ (.tail _ (.tail _ (.tail _ (.tail _ (.tail _ (.tail _ (.head _))))))))⟩, fun p hp => hoff p (.tail _ (.tail _ (.tail _ (.tail _ (.tail _ (.tail _ (.tail _ hp))))))) ⟩
  obtain ⟨z0, z1, z2, z3, z4, z5, z6, z7⟩ := hXi
  clear hoff
  have hvl := hV.length
  have htl := hTh.length
  unfold deedLed stackLed stackEs at *
  refine wpAny_call ?_
  refine' code_cellsT (binds := [(Str.ofString "deck", .ref dk), (Str.ofString "it", .ref ia), (Str.ofString "own", .ref ow), (Str.ofString "most", .int most tm)]) ?k1 ?k2 ?k3 ?k4 ?k5 ?kA ?kF ?kK ?k6 ?k7 ?k8 ?k9 ?kB ?kD ?_ ?c2 ?c3 ?c4
  (case kA => exact rfl)
  (case kF => exact rfl)
  (case kK => assumption)
  (case k1 => k_asm)
  (case k2 => k_asm)
  (case k3 => k_asm)
  (case k4 => k_asm)
  (case k5 => k_asm)
  (case k6 => k_is)
  (case k7 => k_is)
  (case k8 => ktr_room)
  (case k9 => first | exact BindsTo.of_eq rfl | exact binds_K (by k_in) rfl (by k_is) rfl rfl rfl)
  (case kB => exact rfl)
  (case kD => decide +kernel)
  (case c2 => exact rfl)
  (case c3 => exact rfl)
  (case c4 => exact rfl)
  k_whole
  intro g' L' h' tk' cells' FG' F0' N' Y' B' X' T' l1
  have F' : Fr g' L' h' (fun y => if y = Str.ofString "most" then some (.int most tm) else if y = Str.ofString "own" then some (.ref ow) else none) := F0'
  clear F0'
  have l2' := l1
  try k_lt l1
  k_cells Y'
  try simp only [List.cons_append, List.nil_append] at N'
  try dsimp only
  try k_lift B'
  try k_fold
  clear N F B X₀ T₀
  have qq : ∀ b : Nat, L' ≤ b → ∀ p ∈ pool, p.1 ≠ b := fun b hb p hp => Nat.ne_of_lt (Nat.lt_of_lt_of_le (l2' p (by simp [hp])) hb)
  have y1 : @LE.le Nat _ L' (L' + 1) := Nat.le_succ _
  have y2 : @LE.le Nat _ L' (L' + 1 + 1) := Nat.le_succ_of_le y1
  have y3 : @LE.le Nat _ L' (L' + 1 + 1 + 1) := Nat.le_succ_of_le y2
  have y4 : @LE.le Nat _ L' (L' + 1 + 1 + 1 + 1) := Nat.le_succ_of_le y3
  have y5 : @LE.le Nat _ L' (L' + 1 + 1 + 1 + 1 + 1) := Nat.le_succ_of_le y4
  have y6 : @LE.le Nat _ L' (L' + 1 + 1 + 1 + 1 + 1 + 1) := Nat.le_succ_of_le y5
  have q1 : ∀ p ∈ pool, p.1 ≠ L' + 1 := qq _ y1
  have q2 : ∀ p ∈ pool, p.1 ≠ L' + 1 + 1 := qq _ y2
  have q3 : ∀ p ∈ pool, p.1 ≠ L' + 1 + 1 + 1 := qq _ y3
  have q4 : ∀ p ∈ pool, p.1 ≠ L' + 1 + 1 + 1 + 1 := qq _ y4
  have q5 : ∀ p ∈ pool, p.1 ≠ L' + 1 + 1 + 1 + 1 + 1 := qq _ y5
  have q6 : ∀ p ∈ pool, p.1 ≠ L' + 1 + 1 + 1 + 1 + 1 + 1 := qq _ y6
  clear y1 y2 y3 y4 y5 y6
  obtain ⟨e7, e0, e1, e2, e3, e4, e5, e6, -⟩ := l1
  obtain ⟨x01, x02, x03, x04, x05, x06⟩ := cells6 e0
  obtain ⟨x11, x12, x13, x14, x15, x16⟩ := cells6 e1
  obtain ⟨x21, x22, x23, x24, x25, x26⟩ := cells6 e2
  obtain ⟨x31, x32, x33, x34, x35, x36⟩ := cells6 e3
  obtain ⟨x41, x42, x43, x44, x45, x46⟩ := cells6 e4
  obtain ⟨x51, x52, x53, x54, x55, x56⟩ := cells6 e5
  obtain ⟨x61, x62, x63, x64, x65, x66⟩ := cells6 e6
  obtain ⟨x71, x72, x73, x74, x75, x76⟩ := cells6 e7
  obtain ⟨⟨y1, y2, y3, y4, y5⟩, ⟨y6, y7, y8, y9⟩, ⟨y10, y11, y12⟩, ⟨y13, y14⟩, y15⟩ := cellsApart (L := L')
  clear e0 e1 e2 e3 e4 e5 e6 e7
  clear qq l2'
  repeat' (first | ((fail_if_success (with_reducible show wpAny _ _ (PySem.exec (Stmt.Assign [Expr.Name (Str.ofString "due") _] _ _) _) _ _ _)); first | (k_unfold; (try dsimp only)) | (k_end; wrow_close) | walk1 | (dsimp only; walk1) | (refine Sealed.use (by with_reducible assumption) ?_; (try dsimp only))))
  rename _ < (9 : Int) => hw9
  rename _ < (10 : Int) => hm10
  refine with_ints hw9 hm10 fun way mn ew em => ?_
  subst ew em
  refine' due_cut (many := mn - 1) (len := (vos.length : Int)) ?F ?N ?h1 ?h2
  case F => k_asm
  case N => k_asm
  case h1 =>
    k_steps
    all_goals first
      | exact ⟨_, _, _, rfl, rfl, by k_asm, by k_asm, .inl ⟨by omega, _, rfl⟩⟩
      | exact ⟨_, _, _, rfl, rfl, by k_asm, by k_asm, .inr (.inl ⟨by omega, by omega, _, rfl⟩)⟩
      | exact ⟨_, _, _, rfl, rfl, by k_asm, by k_asm, .inr (.inr ⟨by omega, by omega, rfl⟩)⟩
  intro hd1 tkd due Fd Nd hdue
  refine Sealed.use (by with_reducible assumption) ?_
  try dsimp only
  refine' ways w p loose mean mg mb (dk := dk) (dc := dc) (ow := ow) (ia := ia) (idd := idd) (tl := tl) (mixed := mixed) (t1 := t1) (h1 := h1) (h2 := h2) (s1 := s1) (s2 := s2) (s3 := s3) (most := most) (turn := turn + 1 + 1) (ps := ps) (vos := vos) (ts := ts) (cs := L' + 1 + 1 + 1 + 1 + 1 + 1) (cn := L' + 1 + 1 + 1 + 1 + 1) (cm := L' + 1 + 1 + 1 + 1) (cb := L' + 1 + 1 + 1) (ci := L' + 1 + 1) (ck := L' + 1) (way := way) (many := mn - 1) (pool := pool) (ns := ns) (xi := xi) (oxi := oxi) ?a1 ?a2 ?a3 ?a4 hdue ?hod ?hI ?hlen hV hTh hTb ?hH ?hO hsz ?hs ?hn ?hb ?hm ?hi ?hk ?k1 ?k2 ?k3 ?k4 ?k5 ?k6 ?hA ⟨z0, z1, z2, z3, z4, z5, z6, z7⟩ ?v1 ?v2 ?v3 ?v4 ?v5 ?v6 hm0 hm1 ?t0 ?t1 _ _ _ _ _ _ _ _ _ _ _ ?B Fd ?X ?N ?T ?CH ?hd ?hu ?ret
  case a1 => omega
  case a2 => omega
  case a3 => omega
  case a4 => omega
  case N =>
    refine news_sub Nd ?_
    unfold deedLed stackLed stackEs
    tb_rel
  case B => k_asm
  case X => assumption
  case T => assumption
  case CH => assumption
  case hod => k_asm
  case hI => k_asm
  case hlen => lcg_off
  case hs => assumption
  case hn => assumption
  case hb => assumption
  case hm => assumption
  case hi => assumption
  case hk => assumption
  case hH => constructor <;> with_reducible assumption
  case hO => constructor <;> with_reducible assumption
  case k1 => constructor <;> first | with_reducible assumption | (constructor; k_ne)
  case k2 => constructor <;> first | with_reducible assumption | (constructor; k_ne)
  case k3 => constructor <;> first | with_reducible assumption | (constructor; k_ne)
  case k4 => constructor <;> first | with_reducible assumption | (constructor; k_ne)
  case k5 => constructor <;> first | with_reducible assumption | (constructor; k_ne)
  case k6 => constructor <;> first | with_reducible assumption | (constructor; k_ne)
  case hA => constructor <;> first | with_reducible assumption | (constructor; k_ne)
  case v1 => exact ⟨x71.ne'⟩
  case v2 => exact ⟨x72.ne'⟩
  case v3 => exact ⟨x73.ne'⟩
  case v4 => exact ⟨x74.ne'⟩
  case v5 => exact ⟨x75.ne'⟩
  case v6 => exact ⟨x76.ne'⟩
  case t0 => omega
  case t1 => omega
  case hd => show dp + 1 + 20 * 4 < recursionLimit; omega
  case hu => show un + 3 + 200 * 4 < cLine; omega
  case ret =>
    intro h2 tk2 m2 g2 nx T2 B2 F2 N2 S2
    obtain ⟨nx', turn', ns', rfl, O2, q1, q2, S2⟩ := S2
    exact ⟨g2, _, _, _, T2, F2, N2, fun h₀' t b f n => hret _ _ _ _ h₀' t b f n ⟨rfl, nx', turn', ns', rfl, O2, by omega, by omega, S2⟩⟩
end
section
theorem fr_back {g g' h : Heap} {L : Addr} {m : Str → Option Value} (T : KtsTurn [] g g') (F : Fr g' L h m) : Fr g L h m := ⟨F.ns, fun b o e => F.keep b o (T.other b o e (by simp)), by rw [← T.size]; exact F.above⟩
theorem news_back {g g' h : Heap} {L : Addr} {news : List (Addr × Obj)} (T : KtsTurn [] g g') (N : News g' L h news) : News g L h news := fun p hp => ⟨(N p hp).1, (N p hp).2.1, by
  cases q : g.get? p.1 with
  | none => rfl
  | some o => have := T.other _ o q (by simp); rw [(N p hp).2.2] at this; cases this⟩
/-- a deed from the law's own frame -/
theorem deed_use (w : World) (p : Program) (loose : List Str) (mean : ExcName → Option Value) (mg mb : Str → Option Value)
    {dk dc ow ia idd xi : Addr} {oxi : Obj} {mixed : Int} {t1 : Tok} {h1 h2 : Int} {s1 s2 s3 : Tok} {most turn : Int} {ns : List Int} {nx : List (Addr × Obj)} {tm : Tok}
    {dp un : Nat} {gd : Option (List Code)} {cn : Str} {cs : Scope} {a : Addr} {ccd : Value} {cl : List (Str × Addr)} {A₀ : Around} {base : Heap} {L : Addr} {m : Str → Option Value} {s : Shared} {Q E : Value → Shared → Prop}
    (S : DeedSt w dk dc ow ia idd mixed t1 h1 h2 s1 s2 s3 most turn ns nx) (hoff : ∀ p ∈ nx, p.1 ≠ xi) (hm0 : 3 ≤ most) (hm1 : most ≤ 8) (ht0 : 0 ≤ turn) (ht1 : turn ≤ 800)
    (B : Below A₀ base [] base) (F : Fr base L s.heap m) (X : (Mine.hd.heap_1 w.params).In base) (N : News base L s.heap ((xi, oxi) :: nx)) (T : Top p loose mean mg mb base) (CH : CodeHd base 226 224) (hk : cs.kind = .function) (hd : dp + 20 * 5 < recursionLimit) (hu : un + 200 * 5 < cLine)
    (k : ∀ h' tk' ps o cvs dcs t2 n vos n2 tl ts n3 pool turn' ns', Fr base L h' m → News base L h' ((xi, oxi) :: deedLed ps dk dc ow ia idd tl o cvs vos ts n n2 n3 h1 h2 s1 s2 s3 most pool) → Own xi dk dc ow ia idd tl pool → turn ≤ turn' → turn' ≤ turn + 10 →
      o.IsDictOf (strKind PySem.Challenge.rw_nt0483_01.row.prog w) (deckKvs dc mixed t1 turn' t2) → IntsAre cvs dcs → dcs.length ≤ 16 → IntsAre vos ns' → ThingsAre pool ts ns' → TableOk ps pool → Heads dk dc ow ia idd tl → Off7 dk dc ow ia idd tl pool → (ns'.length : Int) ≤ most → Q (.bool true) { s with heap := h', toks := tk' }) :
    wpAny (model PySem.Challenge.rw_nt0483_01.row.prog w) (ktrTop dp un gd cn cs L a ccd cl []) (call (.ref 227) [.ref dk, .ref ia, .ref ow, .int most tm]) Q E s := by
  w_top off
  refine deed_ok w p loose mean mg mb S hoff hm0 hm1 ht0 ht1 _ _ _ _ _ _ _ _ _ _ _ _ _ _ _ _ _ B F X N T CH hk hd hu ?_
  intro r news' h' tk' h₀' T' B' F' N' hr
  obtain ⟨rfl, nx', turn', ns', rfl, O', q1, q2, ps, o, cvs, dcs, t2, n, vos, n2, tl, ts, n3, pool, rfl, hod, hI, hlen, hV, hTh, hTb, hH, hO, hsz⟩ := hr
  refine k h' tk' ps o cvs dcs t2 n vos n2 tl ts n3 pool turn' ns' (fr_back T' F') (news_back T' N') ?_ q1 q2 hod hI hlen hV hTh hTb hH hO hsz
  exact ⟨⟨Ne.symm (O' _ (.head _))⟩, ⟨Ne.symm (O' _ (.tail _ (.head _)))⟩, ⟨Ne.symm (O' _ (.tail _ (.tail _ (.head _))))⟩, ⟨Ne.symm (O' _ (.tail _ (.tail _ (.tail _ (.head _)))))⟩, ⟨Ne.symm (O' _ (.tail _ (.tail _ (.tail _ (.tail _ (.head _))))))⟩, ⟨Ne.symm (O' _ (.tail _ (.tail _ (.tail _ (.tail _ (.tail _ (.head _)))))))⟩, ⟨Ne.symm (O' _ (.tail _ (.tail _ (.tail _ (.tail _ (.tail _ (.tail _ (.head _))))))))⟩, fun p hp => O' p (.tail _ (.tail _ (.tail _ (.tail _ (.tail _ (.tail _ (.tail _ hp)))))))⟩
/-- the ledger ahead of the loop -/
theorem deed_start {w : World} {dk dc ow ia idd tl : Addr} {mixed : Int} {t1 t2 : Tok} {h1 h2 : Int} {s1 s2 s3 : Tok} {most turn : Int} {dcs : List Int} {o : Obj} {cvs : List Value} {n n2 n3 : Nat} {pool news r0 r1 r2 r3 r4 r5 : List (Addr × Obj)} {h₀ h : Heap} {L : Addr} {P : Prop}
    (N : News h₀ L h news) (hod : o.IsDictOf (strKind PySem.Challenge.rw_nt0483_01.row.prog w) (deckKvs dc mixed t1 turn t2)) (e0 : Ext (224, tabObj #[]) news r0) (e1 : Ext (dk, o) r0 r1) (e2 : Ext (dc, W.listOf cvs.toArray n) r1 r2) (e4 : Ext (ia, instObj 149 idd) r2 r3) (e5 : Ext (idd, dictOf (stackEs h1 h2 s1 s2 s3 most tl) 2) r3 r4) (e6 : Ext (tl, W.listOf ([] : List Value).toArray n3) r4 r5) (e3 : Ext (ow, W.listOf ([] : List Value).toArray n2) r5 pool)
    (hI : IntsAre cvs dcs) (hlen : dcs.length ≤ 16) (hH : Heads dk dc ow ia idd tl) (hO : Off7 dk dc ow ia idd tl pool) (hm : 0 ≤ most)
    (k : ∀ nx, News h₀ L h nx → DeedSt w dk dc ow ia idd mixed t1 h1 h2 s1 s2 s3 most turn [] nx → P) : P := by
  have d0 := e0.news (l' := []) N
  have d1 := e1.news (l' := [(224, tabObj #[])]) d0
  have d2 := e2.news (l' := [(224, tabObj #[]), (dk, o)]) d1
  have d3 := e4.news (l' := [(224, tabObj #[]), (dk, o), (dc, W.listOf cvs.toArray n)]) d2
  have d4 := e5.news (l' := [(224, tabObj #[]), (dk, o), (dc, W.listOf cvs.toArray n), (ia, instObj 149 idd)]) d3
  have d5 := e6.news (l' := [(224, tabObj #[]), (dk, o), (dc, W.listOf cvs.toArray n), (ia, instObj 149 idd), (idd, dictOf (stackEs h1 h2 s1 s2 s3 most tl) 2)]) d4
  have d6 := e3.news (l' := [(224, tabObj #[]), (dk, o), (dc, W.listOf cvs.toArray n), (ia, instObj 149 idd), (idd, dictOf (stackEs h1 h2 s1 s2 s3 most tl) 2), (tl, W.listOf ([] : List Value).toArray n3)]) d5
  refine k (deedLed #[] dk dc ow ia idd tl o cvs [] [] n n2 n3 h1 h2 s1 s2 s3 most pool) (news_sub d6 (by unfold deedLed stackLed; tb_rel)) ⟨#[], o, cvs, dcs, t2, n, [], n2, tl, [], n3, pool, rfl, hod, hI, hlen, .nil, .nil, ⟨True.intro, fun pos cv e => by cases e⟩, hH, hO, by simpa using hm⟩
end
section
/-- the law's loop and what is behind it -/
noncomputable def lawScope (w : World) : Scope := scopeAt (Mine.hd.heap_1 w.params) 232
noncomputable def loopBody (w : World) : List Stmt := match (bodyAt (Mine.hd.heap_1 w.params) 232).drop 3 with | (.For _ _ b _ _) :: _ => b | _ => []
noncomputable def lawTail (w : World) : List Stmt := (bodyAt (Mine.hd.heap_1 w.params) 232).drop 4
theorem said_M28_1 : True := by
  k_with "call ref" => (first | ((k_here; (with_reducible show wpAny _ _ (call (Value.ref 227) [_, _, _, _]) _ _ _); k_dflt (refine' deed_use _ _ _ _ _ _ ?zqS ?zqhoff ?zqm0 ?zqm1 ?zqt0 ?zqt1 ?zqB ?zqF ?zqX ?zqN ?zqT ?zqCH ?zqhk ?zqhd ?zqhu ?_; (case zqS => assumption); (case zqhoff => assumption); (case zqm0 => omega); (case zqm1 => omega); (case zqt0 => omega); (case zqt1 => omega); (case zqB => assumption); (case zqF => k_asm); (case zqX => k_asm); (case zqN => k_asm); (case zqT => k_asm); (case zqCH => assumption); (case zqhk => first | exact rfl | assumption); (case zqhd => ktr_room); (case zqhu => ktr_units)); intro zqh' zqtk' zqps' zqo' zqcvs' zqdcs' zqt2' zqn' zqvos' zqn2' zqtl' zqts' zqn3' zqpool' zqturn' zqns' zqF' zqN' zqO' zqq1' zqq2' zqhod' zqhI' zqhlen' zqhV' zqhT' zqhB' zqhH' zqhO' zqhz'; (have zqhl1' := IntsAre.length zqhV'); (have zqhl2' := ThingsAre.length zqhT'); obtain ⟨g1, g2, g3, g4, g5, g6, g7, g8, g9, g10, g11, g12, g13, g14, g15, g16, g17, g18, g19, g20, g21⟩ := zqhH'; obtain ⟨o0, o1, o2, o3, o4, o5, o6⟩ := zqhO'; obtain ⟨z0, z1, z2, z3, z4, z5, z6, z7⟩ := zqO'; (try dsimp only [deedLed, stackLed, stackEs] at zqN'); (try k_sweep))) | fail)
  trivial
set_option maxRecDepth 100000 in
set_option maxHeartbeats 8000000 in
theorem law_loop (w : World) (p : Program) (loose : List Str) (mean : ExcName → Option Value) (mg mb : Str → Option Value)
    {dk dc ow ia idd r : Addr} {mixed b : Int} {t1 : Tok} {h1 h2 : Int} {s1 s2 s3 t₀ u₀ v₀ : Tok} {most turn : Int} {ns : List Int} {nx : List (Addr × Obj)} {tm : Tok}
    {dp un : Nat} {gd : Option (List Code)} {cn : Str} {a : Addr} {ccd : Value} {A₀ : Around} {base : Heap} {L : Addr} {m9 : Str → Option Value} {s : Shared} {Q : Flow → Shared → Prop} {E : Value → Shared → Prop}
    (S : DeedSt w dk dc ow ia idd mixed t1 h1 h2 s1 s2 s3 most turn ns nx) (hm0 : 3 ≤ most) (hm1 : most ≤ 8) (ht0 : 0 ≤ turn) (ht1 : turn ≤ 2) (hb0 : 0 ≤ b) (hb1 : b ≤ 10)
    (B : Below A₀ base [] base) (F : Fr base L s.heap (fun y => if y = Str.ofString "it" then some (.ref ia) else if y = Str.ofString "own" then some (.ref ow) else if y = Str.ofString "most" then some (.int most tm) else if y = Str.ofString "deck" then some (.ref dk) else m9 y))
    (X : (Mine.hd.heap_1 w.params).In base) (N : News base L s.heap nx) (T : Top p loose mean mg mb base) (CH : CodeHd base 226 224) (hd : dp + 20 * 6 < recursionLimit) (hu : un + 200 * 6 < cLine) (hr : IsRange s.heap r 0 b 1 t₀ u₀ v₀)
    (done : ∀ h tk v nx' turn' ns', Fr base L h (fun y => if y = Str.ofString "turn" then v else if y = Str.ofString "it" then some (.ref ia) else if y = Str.ofString "own" then some (.ref ow) else if y = Str.ofString "most" then some (.int most tm) else if y = Str.ofString "deck" then some (.ref dk) else m9 y) → News base L h nx' → DeedSt w dk dc ow ia idd mixed t1 h1 h2 s1 s2 s3 most turn' ns' nx' → Q .next { s with heap := h, toks := tk }) :
    wpAny (model PySem.Challenge.rw_nt0483_01.row.prog w) (ktrTop dp un gd cn (lawScope w) L a ccd [] []) (pyIter (.ref r))
      (fun it s₂ => LoopAtV PySem.Challenge.rw_nt0483_01.row.prog w (ktrTop dp un gd cn (lawScope w) L a ccd [] []) base (envX cn (lawScope w) L a ccd []) (Str.ofString "turn") (loopBody w) Q E it s₂) E s := by
  w_top off
  have eS : lawScope w = lawScope w := rfl
  conv at eS => rhs; whnf
  have eB : loopBody w = loopBody w := rfl
  conv at eB => rhs; whnf
  rw [eS, eB]
  clear eS eB
  revert X
  k_fill
  intro X
  refine m_range (n := b.toNat) (fun i m nx => (∀ z, z ≠ Str.ofString "turn" → m z = (if z = Str.ofString "it" then some (.ref ia) else if z = Str.ofString "own" then some (.ref ow) else if z = Str.ofString "most" then some (.int most tm) else if z = Str.ofString "deck" then some (.ref dk) else m9 z)) ∧
      ∃ turn ns, 0 ≤ turn ∧ turn ≤ 2 + 10 * (i : Int) ∧ DeedSt w dk dc ow ia idd mixed t1 h1 h2 s1 s2 s3 most turn ns nx) (by rfl) hr (Int.toNat_of_nonneg hb0).symm (by omega) F N ⟨fun z _ => rfl, turn, ns, ht0, by omega, S⟩ ?_ ?_
  · rintro i t m₁ nx hh tk' I oI hi ⟨hm, turn, ns, ht0, ht1, S⟩ hoff F2 N2
    rw [map_none hm] at F2
    have hi2 : (i : Int) < 10 := by omega
    have HM : HeadMark dk dc ow ia idd I := True.intro
    k_steps
    · exfalso
      omega
    · show _ = _
      rw [show ∀ a b : Nat, a = b → a - ((b : Int)).toNat = 0 from fun a b h => by omega]
      · rfl
      · omega
    · walk_at "mine fin"
      · assumption
      · exact ThingsAre.mono (by assumption) (by tb_rel)
      · assumption
      · exact fun nx Nx Ox Sx => ⟨_, _, _, nx, rfl, by k_asm, Nx, Ox, fun z hz => if_neg hz, _, _, by omega, by push_cast; omega, Sx⟩
  · rintro m₁ nx' hh tk' ⟨hm, turn', ns', _, _, S'⟩ F2 N2
    have e : m₁ = fun y => if y = Str.ofString "turn" then m₁ (Str.ofString "turn") else if y = Str.ofString "it" then some (.ref ia) else if y = Str.ofString "own" then some (.ref ow) else if y = Str.ofString "most" then some (.int most tm) else if y = Str.ofString "deck" then some (.ref dk) else m9 y := funext fun y => by
      by_cases hy : y = Str.ofString "turn"
      · rw [if_pos hy, hy]
      · rw [if_neg hy, hm y hy]
    rw [e] at F2
    exact done hh tk' _ nx' turn' ns' F2 N2 S'
end
section
theorem things_lit {led : List (Addr × Obj)} {x d : Addr} {es : List DictEntry} {nn : Nat} {k : Int} {vs : List Value} {ns : List Int} (hx : (x, instObj 171 d) ∈ led) (hd : (d, dictOf es nn) ∈ led) (he : ThingEs k es) (h : ThingsAre led vs ns) : ThingsAre led (.ref x :: vs) (k :: ns) :=
  .cons ⟨x, d, es, nn, rfl, hx, hd, he⟩ h
theorem top_all (w : World) (p : Program) (loose : List Str) (mean : ExcName → Option Value) (mg mb : Str → Option Value)
    {h1 h2 : Int} {t1 t2 t3 : Tok} {most : Int} {ia idd tl : Addr} {ts : List Value} {n : Nat} {rest : List (Addr × Obj)} {t : Tok} (ap : StackApart ia idd tl rest) (hl : ts.length = 3) :
    Amb 1 w p loose mean mg mb 104 [.ref ia, .int 3 t] (stackLed h1 h2 t1 t2 t3 most ia idd tl ts n rest)
      (fun r news' => ∃ D n', r = .ref D ∧ news' = (D, W.listOf ts.toArray n') :: stackLed h1 h2 t1 t2 t3 most ia idd tl ts n rest ∧ AllLt D (stackLed h1 h2 t1 t2 t3 most ia idd tl ts n rest)) := by
  w_top off
  have h := top_ok w p loose mean mg mb (h1 := h1) (h2 := h2) (t1 := t1) (t2 := t2) (t3 := t3) (most := most) (ts := ts) (n := n) (k := 3) (t := t) ap (by omega) (by decide) (by omega)
  rwa [show ts.drop (ts.length - (3 : Int).toNat) = ts by rw [hl]; rfl] at h
theorem rolled_three (w : World) (p : Program) (loose : List Str) (mean : ExcName → Option Value) (mg mb : Str → Option Value)
    {h1 h2 : Int} {t1 t2 t3 : Tok} {most : Int} {ia idd tl : Addr} {x y z : Value} {n : Nat} {rest : List (Addr × Obj)} {b : Int} {t tb : Tok} (ap : StackApart ia idd tl rest) :
    Amb 2 w p loose mean mg mb 125 [.ref ia, .int 3 t, .int b tb] (stackLed h1 h2 t1 t2 t3 most ia idd tl [x, y, z] n rest)
      (fun r news' => r = .none ∧ ∃ D n', news' = stackLed h1 h2 t1 t2 t3 most ia idd D ([x, y, z].drop (3 - b.fmod 3).toNat ++ [x, y, z].take (3 - b.fmod 3).toNat) n' rest ∧ StackApart ia idd D rest ∧ AllNe D rest) := by
  have h := rolled_ok w p loose mean mg mb (h1 := h1) (h2 := h2) (t1 := t1) (t2 := t2) (t3 := t3) (most := most) (ts := [x, y, z]) (n := n) (k := 3) (by_ := b) (t := t) (tb := tb) ap (by simp) (by decide) (by simp)
  exact h
theorem rolled_a (w : World) (p : Program) (loose : List Str) (mean : ExcName → Option Value) (mg mb : Str → Option Value)
    {h1 h2 : Int} {t1 t2 t3 : Tok} {most : Int} {ia idd tl : Addr} {x y z : Value} {n : Nat} {rest : List (Addr × Obj)} {t tb : Tok} (ap : StackApart ia idd tl rest) :
    Amb 2 w p loose mean mg mb 125 [.ref ia, .int 3 t, .int (-8) tb] (stackLed h1 h2 t1 t2 t3 most ia idd tl [x, y, z] n rest)
      (fun r news' => r = .none ∧ ∃ D n', news' = stackLed h1 h2 t1 t2 t3 most ia idd D [z, x, y] n' rest ∧ StackApart ia idd D rest ∧ AllNe D rest) := rolled_three w p loose mean mg mb ap
theorem rolled_b (w : World) (p : Program) (loose : List Str) (mean : ExcName → Option Value) (mg mb : Str → Option Value)
    {h1 h2 : Int} {t1 t2 t3 : Tok} {most : Int} {ia idd tl : Addr} {x y z : Value} {n : Nat} {rest : List (Addr × Obj)} {t tb : Tok} (ap : StackApart ia idd tl rest) :
    Amb 2 w p loose mean mg mb 125 [.ref ia, .int 3 t, .int 8 tb] (stackLed h1 h2 t1 t2 t3 most ia idd tl [x, y, z] n rest)
      (fun r news' => r = .none ∧ ∃ D n', news' = stackLed h1 h2 t1 t2 t3 most ia idd D [y, z, x] n' rest ∧ StackApart ia idd D rest ∧ AllNe D rest) := rolled_three w p loose mean mg mb ap
theorem push_three (w : World) (p : Program) (loose : List Str) (mean : ExcName → Option Value) (mg mb : Str → Option Value)
    {h1 h2 : Int} {t1 t2 t3 : Tok} {ia idd tl sl : Addr} {x y z : Value} {n n2 : Nat} {rest : List (Addr × Obj)} (ap : StackApart ia idd tl rest) (hs : (sl, W.listOf [x, y, z].toArray n2) ∈ rest) :
    Amb 1 w p loose mean mg mb 83 [.ref ia, .ref sl] (stackLed h1 h2 t1 t2 t3 3 ia idd tl [] n rest)
      (fun r news' => r = .none ∧ ∃ n', news' = stackLed h1 h2 t1 t2 t3 3 ia idd tl [x, y, z] n' rest) := pushAll_ok w p loose mean mg mb (ws := [x, y, z]) ap (by simp) (by decide) hs
theorem said_M29_1 : True := by
  k_with "call ref" => (first | ((k_here; (with_reducible show wpAny _ _ (call (Value.ref 83) [Value.ref _, Value.ref _]) _ _ _); k_dflt (refine' Amb.use (push_three _ _ _ _ _ _ ?zqap ?zqhs) ?zqB ?zqF ?zqX (news_stack ?zqN ?zqe1 ?zqe2 ?zqe3) ?zqT ?zqhk ?zqhd ?zqhu ?_; walk_at "sd ae"; (case zqhs => k_mem); walk_at "sd pt"); rintro zqr' zqnews' zqh' zqtk' zqF' zqN' ⟨zqe1', zqn', zqe2'⟩; subst zqe1' zqe2'; (try dsimp only [stackLed, stackEs] at zqN'); (try k_sweep))) | fail)
  k_with "call ref" => (first | ((k_here; (with_reducible show wpAny _ _ (call (Value.ref 125) [Value.ref _, Value.int 3 _, Value.int (-8) _]) _ _ _); k_dflt (refine' Amb.use (rolled_a _ _ _ _ _ _ ?zqap) ?zqB ?zqF ?zqX (news_stack ?zqN ?zqe1 ?zqe2 ?zqe3) ?zqT ?zqhk ?zqhd ?zqhu ?_; walk_at "sd ae"; walk_at "sd pt"); rintro zqr' zqnews' zqh' zqtk' zqF' zqN' ⟨zqe1', zqD', zqn', zqe2', ⟨zqb1, zqb2, zqb3, zqb4, zqb5, zqb6⟩, zql1⟩; subst zqe1' zqe2'; (try dsimp only [stackLed, stackEs] at zqN'); (replace zqb1 := Neq.mk zqb1); (replace zqb2 := Neq.mk zqb2); (replace zqb3 := Neq.mk zqb3); (try k_sweep))) | fail)
  k_with "call ref" => (first | ((k_here; (with_reducible show wpAny _ _ (call (Value.ref 125) [Value.ref _, Value.int 3 _, Value.int 8 _]) _ _ _); k_dflt (refine' Amb.use (rolled_b _ _ _ _ _ _ ?zqap) ?zqB ?zqF ?zqX (news_stack ?zqN ?zqe1 ?zqe2 ?zqe3) ?zqT ?zqhk ?zqhd ?zqhu ?_; walk_at "sd ae"; walk_at "sd pt"); rintro zqr' zqnews' zqh' zqtk' zqF' zqN' ⟨zqe1', zqD', zqn', zqe2', ⟨zqb1, zqb2, zqb3, zqb4, zqb5, zqb6⟩, zql1⟩; subst zqe1' zqe2'; (try dsimp only [stackLed, stackEs] at zqN'); (replace zqb1 := Neq.mk zqb1); (replace zqb2 := Neq.mk zqb2); (replace zqb3 := Neq.mk zqb3); (try k_sweep))) | fail)
  k_with "call ref" => (first | ((k_here; (with_reducible show wpAny _ _ (call (Value.ref 104) [Value.ref _, Value.int 3 _]) _ _ _); k_dflt (refine' Amb.use (top_all _ _ _ _ _ _ ?zqap ?zqhl) ?zqB ?zqF ?zqX (news_stack ?zqN ?zqe1 ?zqe2 ?zqe3) ?zqT ?zqhk ?zqhd ?zqhu ?_; walk_at "sd ae"; (case zqhl => rfl); walk_at "sd pt"); rintro zqr' zqnews' zqh' zqtk' zqF' zqN' ⟨zqD', zqn', zqe1', zqe2', zql1⟩; subst zqe1' zqe2'; (try dsimp only [stackLed, stackEs] at zqN'); (try k_sweep))) | fail)
  k_with "mine th" => (first | (first | with_reducible exact ThingsAre.nil | (with_reducible refine' things_lit ?zqx ?zqd ?zqe ?zqr; (case zqx => k_mem); (case zqd => k_mem); (case zqe => assumption); (case zqr => walk_at "mine th"))) | fail)
  k_with "mine things" => (first | (walk_at "mine th") | fail)
  k_with "mine ints" => (first | (first | with_reducible assumption | exact .cons _ _ (.cons _ _ (.cons _ _ .nil))) | fail)
  trivial
set_option maxRecDepth 100000 in
set_option maxHeartbeats 8000000 in
theorem law_tail (w : World) (p : Program) (loose : List Str) (mean : ExcName → Option Value) (mg mb : Str → Option Value)
    {dp un : Nat} {gd : Option (List Code)} {cn : Str} {a : Addr} {ccd : Value} {A₀ : Around} {base : Heap} {L : Addr} {m9 : Str → Option Value} {s : Shared} {ps : Array Value} {Q : Flow → Shared → Prop} {E : Value → Shared → Prop}
    (B : Below A₀ base [] base) (F : Fr base L s.heap m9) (X : (Mine.hd.heap_1 w.params).In base) (N : News base L s.heap [(224, tabObj ps)]) (T : Top p loose mean mg mb base) (hd : dp + 20 * 6 < recursionLimit) (hu : un + 200 * 6 < cLine)
    (hret : ∀ h' tk' m' rest, Fr base L h' m' → News base L h' ((224, tabObj ps) :: rest) → Q (.ret (.bool true)) { s with heap := h', toks := tk' }) :
    wpAny (model PySem.Challenge.rw_nt0483_01.row.prog w) (ktrTop dp un gd cn (lawScope w) L a ccd [] []) (execs (lawTail w) (envX cn (lawScope w) L a ccd [])) Q E s := by
  have eS : lawScope w = lawScope w := rfl
  conv at eS => rhs; whnf
  have eB : lawTail w = lawTail w := rfl
  conv at eB => rhs; whnf
  rw [eS, eB]
  clear eS eB
  revert X
  k_fill
  intro X
  k_steps
  · exact rfl
  · exact rfl
  · exact hret _ _ _ _ (by k_asm) (news_sub (by k_asm) (l' := [(224, tabObj ps)]) (by tb_rel))
end
section
set_option maxRecDepth 100000 in
set_option maxHeartbeats 8000000 in
theorem law_holds : PySem.Challenge.rw_nt0483_01.Holds := hd (by
  w_top off
  k_go0
  all_goals try k_fold
  repeat' (first | ((fail_if_success (with_reducible show wpAny _ _ (PySem.exec (Stmt.For (Expr.Name (Str.ofString "turn") _) _ _ _ _) _) _ _ _)); first | (k_unfold; (try dsimp only)) | (k_end; wrow_close) | walk1 | (dsimp only; walk1) | (refine Sealed.use (by with_reducible assumption) ?_; (try dsimp only))))
  repeat' (first | ((fail_if_success (with_reducible show wpAny _ _ (PySem.pyIter _) _ _ _)); first | (k_unfold; (try dsimp only)) | (k_end; wrow_close) | walk1 | (dsimp only; walk1) | (refine Sealed.use (by with_reducible assumption) ?_; (try dsimp only))))
  rename IsRange _ _ _ _ _ _ _ _ => R
  rename Fr _ _ _ _ => F1
  rename News _ _ _ _ => N1
  refine' deed_start N1 ?hod ?e0 ?e1 ?e2 ?e4 ?e5 ?e6 ?e3 ?hI ?hlen ?hH ?hO ?hm ?kk
  case hod => k_asm
  case e0 => tb_start
  case e1 => tb_start
  case e2 => tb_start
  case e4 => tb_start
  case e5 => tb_start
  case e6 => tb_start
  case e3 => tb_start
  case hI => k_asm
  case hlen => lcg_off
  case hH => constructor <;> (constructor; k_ne)
  case hO => constructor <;> k_all
  case hm => omega
  case kk =>
    intro nx0 Nx0 S0
    k_dflt (refine' law_loop _ _ _ _ _ _ S0 ?m0 ?m1 ?t0 ?t1 ?b0 ?b1 ?B F1 ?X Nx0 ?T ?CH ?hd ?hu R ?done)
    case m0 => omega
    case m1 => omega
    case t0 => decide
    case t1 => decide
    case b0 => omega
    case b1 => omega
    case B => assumption
    case X => assumption
    case T => assumption
    case CH => assumption
    case hd => decide
    case hu => decide
    case done =>
      intro h2 tk2 v2 nx2 turn2 ns2 F2 N2 S2
      obtain ⟨ps, o, cvs, cs, t2, n, vos, n2, tl, ts, n3, pool, rfl, -⟩ := S2
      refine Sealed.use (by with_reducible assumption) ?_
      try dsimp only
      k_dflt (refine' law_tail _ _ _ _ _ _ ?B F2 ?X ?N ?T ?hd ?hu ?ret)
      case B => assumption
      case X => assumption
      case N => exact news_sub N2 (by unfold deedLed; tb_rel)
      case T => assumption
      case hd => decide
      case hu => decide
      case ret =>
        intro h3 tk3 m3 rest3 F3 N3
        try dsimp only
        k_steps)
end
end Mine
set_option maxRecDepth 100000 in
set_option maxHeartbeats 8000000 in
theorem PySem.Challenge.cw_nt0483_01_holds : PySem.Challenge.rw_nt0483_01.Holds := by
  exact Mine.law_holds
