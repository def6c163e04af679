import PyProof.Rows.All
import Wide.All
import OpenK.AllK
import Wide.FinOn
import KE.KStateDown
import HandS.Base
import HandS.Call
import HandS.Ends
import HandS.More
import HandS.Words
import HandS.WordsExc
import HandS.Defaults
import HandS.Head0
import HandS.Head1
import HandS.Head2
import HandS.HeadEnd
import HandS.HeadHook1
import HandS.HeadHook2
import HandS.HeadHook3
import KE.GoesEnum
import KE.GoesNew
import HandS.ForMost
import HandS.Zip
import HandS.TupAny
import HandS.TupMul
import HandS.Style
import HandS.IsInst
import HandS.NoneIn
import HandS.Deep
import PySem.Challenge.RW_ownback_k66_whole_alike_for_ever_or_part
set_option Elab.async false
section
set_option linter.all false
set_option maxRecDepth 100000
set_option maxHeartbeats 4000000
set_option autoImplicit false
/-! The text by places. -/
namespace Ow
open PySem
def top (i : Nat) : Stmt := PySem.Challenge.pw_ownback_k66_whole_alike_for_ever_or_part.main.body.getD i (.Pass ⟨0, 0, 0, 0⟩)
def nth (l : List Stmt) (i : Nat) : Stmt := l.getD i (.Pass ⟨0, 0, 0, 0⟩)
def clsBd : Stmt → List Stmt
  | .ClassDef _ _ _ b _ _ _ _ _ _ _ => b
  | _ => []
end Ow
end

section
set_option linter.all false
set_option maxRecDepth 100000
set_option maxHeartbeats 0
namespace OwH
open PySem PySem.Spec PyProof.Rows L2
open Ow (top nth clsBd)
def dT (x : PySem.Str) (st : Stmt) : He.DefD := ⟨(x, none), x, x, defArgs st, defBody st, defScope st, [], []⟩
def dM (c m qn : PySem.Str) (st : Stmt) : He.DefD := ⟨(c, some m), m, qn, defArgs st, defBody st, defScope st, [], []⟩
def fn : List He.DefD := ([dM "Keeper" "__init__" "Keeper.__init__" (nth (clsBd (top 86)) 0), dM "Keeper" "take" "Keeper.take" (nth (clsBd (top 86)) 1), dM "World" "__init__" "World.__init__" (nth (clsBd (top 88)) 0), dM "World" "take" "World.take" (nth (clsBd (top 88)) 1), dM "World" "tells" "World.tells" (nth (clsBd (top 88)) 2), dM "World" "beside" "World.beside" (nth (clsBd (top 88)) 3), dT "is_integer" (top 13), dT "is_number" (top 14), dT "is_below" (top 15), dT "is_positive" (top 16), dT "is_sequence" (top 17), dT "is_string" (top 18), dT "are_below" (top 19), dT "is_hands" (top 20), dT "is_press" (top 25), dT "check_press" (top 26), dT "is_map" (top 28), dT "are_deeds" (top 29), dT "check_machine" (top 30), dT "need_hands" (top 32)] : List He.DefD) ++
  ([dT "is_letter" (top 33), dT "check_row" (top 34), dT "check_history" (top 35), dT "counts_of" (top 36), dT "boards" (top 37), dT "board_of" (top 38), dT "press_here" (top 39), dT "need_press" (top 41), dT "behind" (top 42), dT "pressed" (top 43), dT "are_counts" (top 45), dT "need_counts" (top 46), dT "vectors" (top 47), dT "is_vector" (top 48), dT "place_of" (top 49), dT "check_part" (top 50), dT "check_table" (top 51), dT "need_hand" (top 52), dT "part_of" (top 53), dT "first_table" (top 54)] : List He.DefD) ++
  ([dT "grown" (top 55), dT "with_back" (top 56), dT "table_of" (top 57), dT "lessened" (top 59), dT "does_all" (top 60), dT "deeds_doing" (top 61), dT "last_pairs" (top 62), dT "lasts" (top 63), dT "normal" (top 65), dT "normal_of" (top 66), dT "renewed" (top 67), dT "two_tables" (top 70), dT "unlike_entries" (top 71), dT "nearest" (top 72), dT "backs_to" (top 73), dT "parting" (top 74), dT "two_alike" (top 78), dT "some_way" (top 79), dT "compare" (top 84), dT "_law_box" (top 90)] : List He.DefD) ++
  ([dT "_law_take" (top 91), dT "_law_pick" (top 92), dT "_law_machine" (top 93), dT "_law_history" (top 94), dT "_law_counts" (top 95), dT "_law_board" (top 96), dT "_law_vectors" (top 97), dT "_law_table" (top 98), dT "_law_pressed" (top 101), dT "_law_presses" (top 102), dT "_law_stepped" (top 103), dT "_law_way_right" (top 104), dT "_law_far" (top 105), dT "_law_led" (top 106), dT "_law_seen" (top 107), dT "_law_other" (top 108), dT "_law_apart" (top 109), dT "_law_compared" (top 110), dT "law" (top 111)] : List He.DefD)
def fa : List He.Fa := ([.free "len", .free "tuple", .free "list", .free "range", .free "enumerate", .free "zip", .free "max", .free "min", .free "sum", .free "all", .free "any", .free "isinstance", .free "int", .free "bool", .free "str", .free "abs", .int "MOST_HANDS" 4, .int "MOST_DEEDS" 6, .int "MOST_BOARDS" 8, .str "DEED" "deed"] : List He.Fa) ++
  ([.str "BACK_forms" "back", .str "BACK_parting" "back", .str "EXCHANGE" "exchange", .str "PUT" "put", .str "ALIKE" "alike", .str "APART" "apart", .str "NUMBERS" "numbers", .glo "Keeper", .cls "Keeper", .mkr "Keeper", .noat "Keeper" "machine", .noat "Keeper" "history", .noat "Keeper" "hands", .glo "World", .cls "World", .mkr "World", .noat "World" "machine", .noat "World" "history", .noat "World" "hands", .noat "World" "keeper"] : List He.Fa) ++
  ([.meth "Keeper" "take", .meth "World" "take", .meth "World" "tells", .meth "World" "beside", .glo "PARTS", .glo "is_integer", .glo "is_number", .glo "is_below", .glo "is_positive", .glo "is_sequence", .glo "is_string", .glo "are_below", .glo "is_hands", .glo "is_press", .glo "check_press", .glo "is_map", .glo "are_deeds", .glo "check_machine", .glo "need_hands", .glo "is_letter"] : List He.Fa) ++
  ([.glo "check_row", .glo "check_history", .glo "counts_of", .glo "boards", .glo "board_of", .glo "press_here", .glo "need_press", .glo "behind", .glo "pressed", .glo "are_counts", .glo "need_counts", .glo "vectors", .glo "is_vector", .glo "place_of", .glo "check_part", .glo "check_table", .glo "need_hand", .glo "part_of", .glo "first_table", .glo "grown"] : List He.Fa) ++
  ([.glo "with_back", .glo "table_of", .glo "lessened", .glo "does_all", .glo "deeds_doing", .glo "last_pairs", .glo "lasts", .glo "normal", .glo "normal_of", .glo "renewed", .glo "two_tables", .glo "unlike_entries", .glo "nearest", .glo "backs_to", .glo "parting", .glo "two_alike", .glo "some_way", .glo "compare", .glo "_law_box", .glo "_law_take"] : List He.Fa) ++
  ([.glo "_law_pick", .glo "_law_machine", .glo "_law_history", .glo "_law_counts", .glo "_law_board", .glo "_law_vectors", .glo "_law_table", .glo "_law_pressed", .glo "_law_presses", .glo "_law_stepped", .glo "_law_way_right", .glo "_law_far", .glo "_law_led", .glo "_law_seen", .glo "_law_other", .glo "_law_apart", .glo "_law_compared", .glo "law"] : List He.Fa)
/-- the part of the heap that is looked at -/
def vals (g : Addr → Option Obj) (a : Addr) : List Addr := match g a with
  | some o => (match o.data with
    | .dict es _ => es.toList.flatMap fun e => He.refV e.val
    | _ => [])
  | none => []
def deep (g : Addr → Option Obj) (a : Addr) : List Addr := match g a with
  | some o => He.refV o.cls ++ (match o.data with
    | .func fd => He.refV fd.code
    | .cls cd => cd.ns :: cd.mro.flatMap He.refV
    | _ => [])
  | none => []
def nss (g : Addr → Option Obj) (a : Addr) : List Addr := match g a with
  | some o => (match o.data with
    | .cls cd => vals g cd.ns
    | _ => [])
  | none => []
def asW (g : Addr → Option Obj) : List Addr :=
  let l1 := vals g mainGlobals
  let l3 := l1.flatMap (nss g)
  mainGlobals :: (l1 ++ (l1.flatMap (deep g) ++ (l3 ++ l3.flatMap (deep g))))
abbrev Al : Type := He.AlT × Bool
def tab : He.Tab := (fun K => He.ga K "PARTS", ["deed", "back"])
def obsK (K : PySem.W.Frag) : Al := (He.obsT fa fn [tab] K, He.valsB K (He.ga K "PARTS") [("deed", .int 3)])
def Says (w : World) (K : PySem.W.Frag) : Prop := obsK K = (He.valT fn [tab] w, true)
def hk : PySem.W.Hook where
  α := Al
  obs := fun s => obsK (He.frG s.heap.get? (asW s.heap.get?))
  val := fun w => (He.valT fn [tab] w, true)
  says := fun w h => ∃ K : PySem.W.Frag, K.In h ∧ Says w K
  of := fun _ _ e => ⟨_, He.frG_in, e⟩
  keeps := fun _ _ _ ⟨K, hK, c⟩ k => ⟨K, PySem.W.Frag.In.keeps hK k, c⟩
abbrev R : PySem.W.OpenRow := PySem.W.OpenLaw.row PySem.Challenge.rw_ownback_k66_whole_alike_for_ever_or_part
def ob (s : PySem.W.SharedT) : Al := obsK (He.frG (HandSHeadRun.getT s) (asW (HandSHeadRun.getT s)))
theorem ob_eq (s : PySem.W.SharedT) : ob s = hk.obs s.abs := by
  have e : HandSHeadRun.getT s = s.abs.heap.get? := funext (HandSHeadRun.getT_eq s)
  unfold ob
  rw [e] <;> rfl
def names : List PySem.Str := (["_wall", "OwnError", "BadMachine", "BadHistory", "BadTable", "Refused", "NoHand", "NoDeed", "MOST_HANDS", "MOST_DEEDS", "MOST_BOARDS", "is_integer", "is_number", "is_below", "is_positive", "is_sequence", "is_string", "are_below", "is_hands", "DEED"] : List PySem.Str) ++
  (["BACK_forms", "PARTS", "is_press", "check_press", "is_map", "are_deeds", "check_machine", "need_hands", "is_letter", "check_row", "check_history", "counts_of", "boards", "board_of", "press_here", "last_place", "need_press", "behind", "pressed", "are_counts"] : List PySem.Str) ++
  (["need_counts", "vectors", "is_vector", "place_of", "check_part", "check_table", "need_hand", "part_of", "first_table", "grown", "with_back", "table_of", "lessened", "does_all", "deeds_doing", "last_pairs", "lasts", "normal", "normal_of", "renewed"] : List PySem.Str) ++
  (["BACK_parting", "two_tables", "unlike_entries", "nearest", "backs_to", "parting", "EXCHANGE", "PUT", "two_alike", "some_way", "ALIKE", "APART", "NUMBERS", "compare", "Keeper", "World", "_law_box", "_law_take", "_law_pick", "_law_machine"] : List PySem.Str) ++
  (["_law_history", "_law_counts", "_law_board", "_law_vectors", "_law_table", "_law_histories", "_law_normal", "_law_pressed", "_law_presses", "_law_stepped", "_law_way_right", "_law_far", "_law_led", "_law_seen", "_law_other", "_law_apart", "_law_compared"] : List PySem.Str)
open HandSHeadRun PySem.W
abbrev wf (w : World) : World := w.withFollow "special-get-raises" false
abbrev wt (w : World) : World := w.withFollow "special-get-raises" true
end OwH
end

section
set_option linter.all false
set_option maxRecDepth 100000
set_option maxHeartbeats 0
namespace OwH
open PySem PySem.Spec PyProof.Rows L2
open HandSHeadRun PySem.W
theorem pA_wf (w : World) : ∀ os : OsState, (endF (stepQ (denQ tabQ) R.prog (wf w)) 8000 R.prog (wf w) os).map (fun s => looksF R.prog (boot_heap (wf w).params) s.abs) = some true := by
  intro os
  kernel_rfl
end OwH
end

section
set_option linter.all false
set_option maxRecDepth 100000
set_option maxHeartbeats 0
namespace OwH
open PySem PySem.Spec PyProof.Rows L2
open HandSHeadRun PySem.W
theorem pB_wf (w : World) : ∀ os : OsState, (endF (stepQ (denQ tabQ) R.prog (wf w)) 8000 R.prog (wf w) os).map (fun s => seenQ (PySem.W.view R.prog [111]) names (importedModules R.prog.main.body) (fun s => xlAt (PySem.W.view R.prog [111]) [] s && recOk R.toRowW.records s) s.abs) = some (openGood (PySem.W.view R.prog [111]) names) := by
  intro os
  kernel_rfl
end OwH
end

section
set_option linter.all false
set_option maxRecDepth 100000
set_option maxHeartbeats 0
namespace OwH
open PySem PySem.Spec PyProof.Rows L2
open HandSHeadRun PySem.W
theorem pC_wf (w : World) : ∀ os : OsState, (endF (stepQ (denQ tabQ) R.prog (wf w)) 8000 R.prog (wf w) os).map (fun s => ob s) = some (hk.val (wf w)) := by
  intro os
  kernel_rfl
end OwH
end

section
set_option linter.all false
set_option maxRecDepth 100000
set_option maxHeartbeats 0
namespace OwH
open PySem PySem.Spec PyProof.Rows L2
open HandSHeadRun PySem.W
theorem pA_wt (w : World) : ∀ os : OsState, (endF (stepQ (denQ tabQ) R.prog (wt w)) 8000 R.prog (wt w) os).map (fun s => looksF R.prog (boot_heap (wt w).params) s.abs) = some true := by
  intro os
  kernel_rfl
end OwH
end

section
set_option linter.all false
set_option maxRecDepth 100000
set_option maxHeartbeats 0
namespace OwH
open PySem PySem.Spec PyProof.Rows L2
open HandSHeadRun PySem.W
theorem pB_wt (w : World) : ∀ os : OsState, (endF (stepQ (denQ tabQ) R.prog (wt w)) 8000 R.prog (wt w) os).map (fun s => seenQ (PySem.W.view R.prog [111]) names (importedModules R.prog.main.body) (fun s => xlAt (PySem.W.view R.prog [111]) [] s && recOk R.toRowW.records s) s.abs) = some (openGood (PySem.W.view R.prog [111]) names) := by
  intro os
  kernel_rfl
end OwH
end

section
set_option linter.all false
set_option maxRecDepth 100000
set_option maxHeartbeats 0
namespace OwH
open PySem PySem.Spec PyProof.Rows L2
open HandSHeadRun PySem.W
theorem pC_wt (w : World) : ∀ os : OsState, (endF (stepQ (denQ tabQ) R.prog (wt w)) 8000 R.prog (wt w) os).map (fun s => ob s) = some (hk.val (wt w)) := by
  intro os
  kernel_rfl
end OwH
end

section
set_option linter.all false
set_option maxRecDepth 100000
set_option maxHeartbeats 4000000
/-! Rules that the layer lacks: enumerate(tuple), zip of three tuples, sum(tuple), calls by keywords alone. -/
namespace OwL
open PySem PySem.Spec PyProof.Rows L2
open PySem (Sem)
open Sem (wp)
open AutoSeq1 (wpAny_loadPart')

theorem meets_enumerate_newT (l : Addr) (items : Array Value) (n : Nat) (dct : Option Addr) (sl : Array (Option Value)) :
    Meets (Builtin.«enumerate.__new__» ⟨[.type "enumerate", .ref l], []⟩) (fun _ R s => s.heap.get? l = some { cls := .type "tuple", dict := dct, data := .seq items n, slots := sl } ∧
      R (.ok (.ret (.ref (s.heap.push { cls := .type "tuple_iterator", data := .fields #[.ref l, .int 0 0] }).objs.size)))
        { s with heap := (s.heap.push { cls := .type "tuple_iterator", data := .fields #[.ref l, .int 0 0] }).push { cls := .type "enumerate", data := .fields #[.none, .bool false, .ref s.heap.objs.size, rawInt 0, .none, .none] } }) :=
  .of_wp fun prog w A R s h => by
    obtain ⟨hp, g, d, tk, os⟩ := s; obtain ⟨hl, h⟩ := h
    have hsub := sub_enumerate
    have hL : Heap.IsTuple (Shared.heap ⟨hp, g, d, tk, os⟩) l items := ⟨_, hl, rfl, n, rfl⟩
    wp_walk using wpAny_loadPart' hl
    refine wpAny_stack_any fun st => wpAny_pure ?_
    split
    · rename_i c _ _ _ _ _
      cases (c == Value.type "enumerate")
      · wp_walk using wpAny_loadPart' hl, wpAny_pyIter_tuple hL
        exact ⟨_, rfl, h⟩
      · wp_walk using wpAny_loadPart' hl, wpAny_pyIter_tuple hL
        exact ⟨_, rfl, h⟩
    · wp_walk using wpAny_loadPart' hl, wpAny_pyIter_tuple hL
      exact ⟨_, rfl, h⟩

section
variable {prog : Program} {w : World} {A : Around} {E : Value → Shared → Prop} {s : Shared}
theorem call_enumerate_tuple {l : Addr} {items : Array Value} {Q : Value → Shared → Prop} (hL : s.heap.IsTuple l items)
    (h : ∀ h', IsEnum h' (s.heap.objs.size + 1) s.heap.objs.size 0 .none → h'.IsTupleIter s.heap.objs.size l 0 → h'.objs.size = s.heap.objs.size + 2 →
      (∀ b o, s.heap.get? b = some o → h'.get? b = some o) → Q (.ref (s.heap.objs.size + 1)) { s with heap := h' }) :
    wpAny (model prog w) A (call (.type "enumerate") [.ref l]) Q E s := by
  obtain ⟨⟨c, dct, dt, sl⟩, hl, hc, n, hd⟩ := hL
  replace hc : c = .type "tuple" := hc
  replace hd : dt = .seq items n := hd
  subst hc hd
  refine callType_new F.called_enumerate (by decide) (F.typeCall_enumerate_1 _) (F.newCall_enumerate_1 _) (fun obj => F.args_object_init_2 obj _) F.entry_enumerate_new
    (meets_enumerate_newT l items n dct sl) ⟨hl, ?_⟩
  have hz : (s.heap.push { cls := .type "tuple_iterator", data := .fields #[.ref l, .int 0 0] }).objs.size = s.heap.objs.size + 1 := Heap.size_push ..
  show _ ∧ _
  rw [hz]
  have he : IsEnum ((s.heap.push { cls := .type "tuple_iterator", data := .fields #[.ref l, .int 0 0] }).push
      { cls := .type "enumerate", data := .fields #[.none, .bool false, .ref s.heap.objs.size, rawInt 0, .none, .none] }) (s.heap.objs.size + 1) s.heap.objs.size 0 .none := by
    have := Heap.get?_push_size (s.heap.push { cls := .type "tuple_iterator", data := .fields #[.ref l, .int 0 0] })
      (o := { cls := .type "enumerate", data := .fields #[.none, .bool false, .ref s.heap.objs.size, rawInt 0, .none, .none] }) rfl
    rw [hz] at this; exact this
  refine ⟨⟨_, he, rfl⟩, h _ he ⟨_, Heap.get?_push_of_some _ (Heap.get?_push_size _ rfl), rfl, rfl⟩ (by rw [Heap.size_push, hz]) fun b o x => Heap.get?_push_of_some _ (Heap.get?_push_of_some _ x)⟩
end

/-- the tuple at a, each item in a new pair -/
def IteT (K : PySem.W.Frag) (a : Addr) : It :=
  ⟨fun i H => ∃ (xs : List V) (x : V), SqT K H a xs ∧ xs[i]? = some x, fun i H v H' => ∃ T x, v = .ref T ∧ H T = none ∧ H' = upd H T (.tup [.int (i : Nat), x]) ∧ ∀ xs, SqT K H a xs → xs[i]? = some x, fun i H => ∃ xs : List V, SqT K H a xs ∧ xs.length = i⟩
theorem turn_enumT {P : Program} {w : World} {K : PySem.W.Frag} {elts : List Expr} {kk : Nat} {tpos : Pos} (a e it : Addr) :
    Turn P w K (.Tuple elts kk tpos) (IteT K a) [e, it] e (fun i h => (∃ old, IsEnum h e it (0 + ((i : Nat) : Int)) old) ∧ h.IsTupleIter it a i ∧ e ≠ it ∧ a ≠ it ∧ e ≠ a) where
  mem := by simp
  obj := fun i h st b hb => by
    obtain ⟨⟨old, he⟩, ⟨o, ho, hc, hd⟩, _⟩ := st
    have e' : b = e ∨ b = it := by simpa using hb
    rcases e' with z | z
    · rw [z]; exact ⟨_, he, fun v q => nomatch q⟩
    · rw [z]; exact ⟨o, ho, fun v q => by rw [hd] at q; cases q⟩
  keep := fun i h h' st k => let ⟨⟨old, he⟩, hi, hne⟩ := st; ⟨⟨old, k e (by simp) _ he⟩, hi.at fun o q => k it (by simp) o q, hne⟩
  item := by
    intro X hP hw hK hc i pins s σ H E I hf st hg
    subst hP hw hK
    obtain ⟨⟨old, he⟩, hit, hne, hne2, hne3⟩ := st
    obtain ⟨xs, x, hq, hx⟩ := hg
    obtain ⟨its, rv, p, hz⟩ := I.tuple hq
    obtain ⟨u, hu, ru⟩ := rv.get hx
    have hel : e < s.heap.objs.size := Heap.lt_size he
    have hil : it < s.heap.objs.size := by obtain ⟨_, q, _⟩ := hit; exact Heap.lt_size q
    have hin : i < its.toArray.size := by rw [List.size_toArray]; exact (List.getElem?_eq_some_iff.mp hu).1
    have G := GoesN.enumFrom (prog := X.prog) (w := X.w) (A := X.A) (elts := elts) (x1 := kk) (pos := tpos) 0 (Draws.tuple (A := X.A.in1) (I.ok.hd hc) it a hne2 its.toArray) e hne (by simp [hne, hne3]) (by simp)
    refine G.goes i s (fun v s2 => ∃ x H', Inv X pins σ H' s2 ∧ RelV x v ∧ (IteT X.K a).yld i H x H' ∧ ((∃ old, IsEnum s2.heap e it (0 + (((i + 1 : Nat)) : Int)) old) ∧ s2.heap.IsTupleIter it a (i + 1) ∧ e ≠ it ∧ a ≠ it ∧ e ≠ a) ∧ ∀ b ∈ [e, it], H' b = none) E hin ⟨⟨old, he⟩, hit, p⟩ ?_
    intro v h' tk hY st' hk htk
    obtain ⟨T, t, y, rfl, hT, hy, hTup⟩ := hY
    have ey : y = u := by
      have hu' : its.toArray[i]? = some u := by simpa using hu
      rw [hu'] at hy
      exact (Option.some.inj hy).symm
    subst ey
    have new : ObjOk X.prog X.w (upd H T (.tup [.int (i : Nat), x])) h' T (.tup [.int (i : Nat), x]) := by
      obtain ⟨oT, hT1, hT2, nT, hT3⟩ := hTup
      refine ⟨by show 2 ≤ sizeLine; decide, [.int (0 + (i : Int)) t, y], .cons ⟨t, by rw [Int.zero_add]⟩ (.cons ru .nil), ⟨oT, hT1, hT2, nT, hT3⟩⟩
    have I1 : Inv X pins σ (upd H T (.tup [.int (i : Nat), x])) { s with heap := h', toks := tk } :=
      I.turnedNew (ch := [e, it]) (fun b ob hb q => hk b ob hb q) hf hT new
    obtain ⟨hen, hit2, _⟩ := st'
    refine ⟨.ref T, _, I1, rfl, ⟨T, x, rfl, I.hok.fresh hT, rfl, fun ys hy => by rw [I.tuple_inj hy hq]; exact hx⟩, ⟨hen, hit2, hne, hne2, hne3⟩, fun b hb => ?_⟩
    have hb' : b < s.heap.objs.size := by
      have e' : b = e ∨ b = it := by simpa using hb
      rcases e' with z | z
      · rw [z]; exact hel
      · rw [z]; exact hil
    rw [upd_ne (Nat.ne_of_lt (Nat.lt_of_lt_of_le hb' hT))]
    exact (hf b hb).1
  done := by
    intro X hP hw hK hc i pins s σ H E I hf st hg
    subst hP hw hK
    obtain ⟨⟨old, he⟩, hit, hne, hne2, hne3⟩ := st
    obtain ⟨xs, hq, hx⟩ := hg
    obtain ⟨its, rv, p, hz⟩ := I.tuple hq
    have hl := rv.length
    have hin : i = its.toArray.size := by rw [List.size_toArray]; omega
    have G := GoesN.enumFrom (prog := X.prog) (w := X.w) (A := X.A) (elts := elts) (x1 := kk) (pos := tpos) 0 (Draws.tuple (A := X.A.in1) (I.ok.hd hc) it a hne2 its.toArray) e hne (by simp [hne, hne3]) (by simp)
    subst hin
    exact G.stops s (fun s1 => Inv X pins σ H s1) E ⟨⟨old, he⟩, hit, p⟩ fun h' tk hk htk => I.turnedL (ch := [e, it]) (fun b o hb q => hk b o hb q) hf
  self := fun A i s Q E st h => let ⟨⟨_, he⟩, _⟩ := st; wpAny_pyIter_enum he h

def iEnumT (K : PySem.W.Frag) (ta : TA) : TI := fun σ H R => ta σ H fun vs H1 => ∃ a xs, vs = [.ref a] ∧ SqT K H1 a xs ∧ R (IteT K a) H1
theorem pi_enumT {X : Cx} {e : Expr} {ta : TA} {p pos tpos : Pos} {elts : List Expr} {kk : Nat} (hg : Gl X "enumerate") (hm : X.mg "enumerate" = none) (ha : PA X [e] ta) (hs : starEach [e] X.env = [(false, eval e X.env)] := by rfl) :
    PI X (.Tuple elts kk tpos) (.Call (.Name "enumerate" p) [e] [] pos) (iEnumT X.K ta) := by
  refine ⟨fun pins s σ H R I h => ?_⟩
  refine Call_ (ld_blt I hg hm boot_enumerate (PyProof.Rows.callWith_type1 (thn (ha.run pos pins s σ H _ I h) fun us s1 ⟨vs, H1, I1, r1, q1⟩ => ?_) hs rfl))
  obtain ⟨a, xs, ex, hq, q⟩ := q1
  subst ex
  cases r1 with
  | cons r rr =>
    cases rr
    cases r
    obtain ⟨its, rv, p', hz⟩ := I1.tuple hq
    have hal : a < s1.heap.objs.size := by obtain ⟨_, q, _⟩ := p'; exact Heap.lt_size q
    refine call_enumerate_tuple p' fun h' he hit hsz hk => wpAny_pyIter_enum he ?_
    have I2 : Inv X pins σ H1 { s1 with heap := h' } := I1.kept (t' := s1.toks) hk
    refine ⟨s1.heap.objs.size + 1, [s1.heap.objs.size + 1, s1.heap.objs.size], _, _, H1, rfl, I2, turn_enumT a (s1.heap.objs.size + 1) s1.heap.objs.size, ⟨⟨.none, he⟩, hit, Nat.succ_ne_self _, Nat.ne_of_lt hal, Nat.ne_of_gt (Nat.lt_succ_of_lt hal)⟩, fun b hb => ?_, q⟩
    have e' : b = s1.heap.objs.size + 1 ∨ b = s1.heap.objs.size := by simpa using hb
    have hle : s1.heap.objs.size ≤ b := by
      rcases e' with z | z
      · rw [z]; exact Nat.le_add_right _ _
      · rw [z]; exact Nat.le_refl _
    exact I1.fpOk hle (I1.hok.fresh hle)

/-- the tuples at a, b, c, the items in new triples -/
def Itz3 (K : PySem.W.Frag) (a b c : Addr) : It :=
  ⟨fun i H => ∃ (xs ys zs : List V) (x y z : V), SqT K H a xs ∧ SqT K H b ys ∧ SqT K H c zs ∧ xs.length = ys.length ∧ ys.length = zs.length ∧ xs[i]? = some x ∧ ys[i]? = some y ∧ zs[i]? = some z,
    fun i H v H' => ∃ T x y z, v = .ref T ∧ H T = none ∧ H' = upd H T (.tup [x, y, z]) ∧ (∀ xs, SqT K H a xs → xs[i]? = some x) ∧ (∀ ys, SqT K H b ys → ys[i]? = some y) ∧ ∀ zs, SqT K H c zs → zs[i]? = some z,
    fun i H => ∃ xs ys zs : List V, SqT K H a xs ∧ SqT K H b ys ∧ SqT K H c zs ∧ xs.length = i ∧ ys.length = i ∧ zs.length = i⟩
def sep3 (z TI TO i1 i2 i3 a b c : Addr) : Prop := ZipSep3 z TI TO i1 i2 i3 [i1, a] [i2, b] [i3, c] ∧ a ≠ i1 ∧ b ≠ i2 ∧ c ≠ i3
theorem turn_zip3 {P : Program} {w : World} {K : PySem.W.Frag} {elts : List Expr} {kk : Nat} {tpos : Pos} {a b c z TI TO i1 i2 i3 : Addr} (S : sep3 z TI TO i1 i2 i3 a b c) :
    Turn P w K (.Tuple elts kk tpos) (Itz3 K a b c) [z, TI, TO, i1, i2, i3] z (fun i h => IsZip h z TI TO .none ∧ IsTupOf3 h TI (.ref i1) (.ref i2) (.ref i3) ∧ (∃ a1 a2 a3, IsTupOf3 h TO a1 a2 a3) ∧ h.IsTupleIter i1 a i ∧ h.IsTupleIter i2 b i ∧ h.IsTupleIter i3 c i) where
  mem := by simp
  obj := fun i h st d hd => by
    obtain ⟨hz, hTI, ⟨x, y, u, hTO⟩, ⟨o1, e1, _, d1⟩, ⟨o2, e2, _, d2⟩, ⟨o3, e3, _, d3⟩⟩ := st
    have e' : d = z ∨ d = TI ∨ d = TO ∨ d = i1 ∨ d = i2 ∨ d = i3 := by simpa using hd
    rcases e' with q | q | q | q | q | q
    · rw [q]; exact ⟨_, hz, fun v q => nomatch q⟩
    · rw [q]; exact ⟨_, hTI, fun v q => nomatch q⟩
    · rw [q]; exact ⟨_, hTO, fun v q => nomatch q⟩
    · rw [q]; exact ⟨o1, e1, fun v q => by rw [d1] at q; cases q⟩
    · rw [q]; exact ⟨o2, e2, fun v q => by rw [d2] at q; cases q⟩
    · rw [q]; exact ⟨o3, e3, fun v q => by rw [d3] at q; cases q⟩
  keep := fun i h h' st k => by
    obtain ⟨hz, hTI, ⟨x, y, u, hTO⟩, h1, h2, h3⟩ := st
    exact ⟨k z (by simp) _ hz, k TI (by simp) _ hTI, ⟨x, y, u, k TO (by simp) _ hTO⟩, h1.at fun o q => k i1 (by simp) o q, h2.at fun o q => k i2 (by simp) o q, h3.at fun o q => k i3 (by simp) o q⟩
  item := by
    intro X hP hw hK hc i pins s σ H E I hf st hg
    subst hP hw hK
    obtain ⟨hz, hTI, hTO, h1, h2, h3⟩ := st
    obtain ⟨S, n1, n2, n3⟩ := S
    obtain ⟨xs, ys, zs, x, y, u, qx, qy, qu, l1, l2, hx, hy, hu⟩ := hg
    obtain ⟨its, rv, p, _⟩ := I.tuple qx
    obtain ⟨its2, rv2, p2, _⟩ := I.tuple qy
    obtain ⟨its3, rv3, p3, _⟩ := I.tuple qu
    obtain ⟨v1, g1, r1⟩ := rv.get hx
    obtain ⟨v2, g2, r2⟩ := rv2.get hy
    obtain ⟨v3, g3, r3⟩ := rv3.get hu
    have hin : i < min (min its.toArray.size its2.toArray.size) its3.toArray.size := by
      have b1 := (List.getElem?_eq_some_iff.mp g1).1
      have b2 := (List.getElem?_eq_some_iff.mp g2).1
      have b3 := (List.getElem?_eq_some_iff.mp g3).1
      simp only [List.size_toArray]
      omega
    have G := GoesN.zip3 (prog := X.prog) (w := X.w) (A := X.A) (elts := elts) (x1 := kk) (pos := tpos) S (Draws.tuple (A := X.A.in1) (I.ok.hd hc) i1 a n1 its.toArray) (Draws.tuple (A := X.A.in1) (I.ok.hd hc) i2 b n2 its2.toArray) (Draws.tuple (A := X.A.in1) (I.ok.hd hc) i3 c n3 its3.toArray)
    refine G.goes i s (fun v s2 => ∃ x H', Inv X pins σ H' s2 ∧ RelV x v ∧ (Itz3 X.K a b c).yld i H x H' ∧ (IsZip s2.heap z TI TO .none ∧ IsTupOf3 s2.heap TI (.ref i1) (.ref i2) (.ref i3) ∧ (∃ a1 a2 a3, IsTupOf3 s2.heap TO a1 a2 a3) ∧ s2.heap.IsTupleIter i1 a (i + 1) ∧ s2.heap.IsTupleIter i2 b (i + 1) ∧ s2.heap.IsTupleIter i3 c (i + 1)) ∧ ∀ d ∈ [z, TI, TO, i1, i2, i3], H' d = none) E hin ⟨hz, hTI, hTO, ⟨h1, p⟩, ⟨h2, p2⟩, ⟨h3, p3⟩⟩ ?_
    intro v h' tk hY st' hk htk
    obtain ⟨T, w1, w2, w3, rfl, hT, y1, y2, y3, hTup⟩ := hY
    have e1 : w1 = v1 := by
      have q : its.toArray[i]? = some v1 := by simpa using g1
      rw [q] at y1; exact (Option.some.inj y1).symm
    have e2 : w2 = v2 := by
      have q : its2.toArray[i]? = some v2 := by simpa using g2
      rw [q] at y2; exact (Option.some.inj y2).symm
    have e3 : w3 = v3 := by
      have q : its3.toArray[i]? = some v3 := by simpa using g3
      rw [q] at y3; exact (Option.some.inj y3).symm
    subst e1 e2 e3
    have new : ObjOk X.prog X.w (upd H T (.tup [x, y, u])) h' T (.tup [x, y, u]) := by
      obtain ⟨oT, hT1, hT2, nT, hT3⟩ := hTup
      exact ⟨by show 3 ≤ sizeLine; decide, [w1, w2, w3], .cons r1 (.cons r2 (.cons r3 .nil)), ⟨oT, hT1, hT2, nT, hT3⟩⟩
    have I1 : Inv X pins σ (upd H T (.tup [x, y, u])) { s with heap := h', toks := tk } :=
      I.turnedNew (ch := [z, TI, TO, i1, i2, i3]) (fun d ob hd q => hk d ob (fun m => hd (by
        have e' : d = z ∨ d = TO ∨ d = i1 ∨ d = i2 ∨ d = i3 := by simpa using m
        rcases e' with q | q | q | q | q <;> simp [q])) q) hf hT new
    obtain ⟨z', TI', TO', ⟨h1', _⟩, ⟨h2', _⟩, ⟨h3', _⟩⟩ := st'
    refine ⟨.ref T, _, I1, rfl, ⟨T, x, y, u, rfl, I.hok.fresh hT, rfl, fun l hl => by rw [I.tuple_inj hl qx]; exact hx, fun l hl => by rw [I.tuple_inj hl qy]; exact hy, fun l hl => by rw [I.tuple_inj hl qu]; exact hu⟩, ⟨z', TI', TO', h1', h2', h3'⟩, fun d hd => ?_⟩
    have hlt : d < s.heap.objs.size := by
      have e' : d = z ∨ d = TI ∨ d = TO ∨ d = i1 ∨ d = i2 ∨ d = i3 := by simpa using hd
      rcases e' with q | q | q | q | q | q
      · rw [q]; exact Heap.lt_size hz
      · rw [q]; exact Heap.lt_size hTI
      · obtain ⟨_, _, _, g⟩ := hTO; rw [q]; exact Heap.lt_size g
      · rw [q]; obtain ⟨_, e1, _⟩ := h1; exact Heap.lt_size e1
      · rw [q]; obtain ⟨_, e1, _⟩ := h2; exact Heap.lt_size e1
      · rw [q]; obtain ⟨_, e1, _⟩ := h3; exact Heap.lt_size e1
    rw [upd_ne (Nat.ne_of_lt (Nat.lt_of_lt_of_le hlt hT))]
    exact (hf d hd).1
  done := by
    intro X hP hw hK hc i pins s σ H E I hf st hg
    subst hP hw hK
    obtain ⟨hz, hTI, hTO, h1, h2, h3⟩ := st
    obtain ⟨S, n1, n2, n3⟩ := S
    obtain ⟨xs, ys, zs, qx, qy, qu, l1, l2, l3⟩ := hg
    obtain ⟨its, rv, p, _⟩ := I.tuple qx
    obtain ⟨its2, rv2, p2, _⟩ := I.tuple qy
    obtain ⟨its3, rv3, p3, _⟩ := I.tuple qu
    have m1 := rv.length
    have m2 := rv2.length
    have m3 := rv3.length
    have hin : min (min its.toArray.size its2.toArray.size) its3.toArray.size = i := by
      simp only [List.size_toArray]
      omega
    have G := GoesN.zip3 (prog := X.prog) (w := X.w) (A := X.A) (elts := elts) (x1 := kk) (pos := tpos) S (Draws.tuple (A := X.A.in1) (I.ok.hd hc) i1 a n1 its.toArray) (Draws.tuple (A := X.A.in1) (I.ok.hd hc) i2 b n2 its2.toArray) (Draws.tuple (A := X.A.in1) (I.ok.hd hc) i3 c n3 its3.toArray)
    rw [hin] at G
    exact G.stops s (fun s1 => Inv X pins σ H s1) E ⟨hz, hTI, hTO, ⟨h1, p⟩, ⟨h2, p2⟩, ⟨h3, p3⟩⟩ fun h' tk hk htk => I.turnedL (ch := [z, TI, TO, i1, i2, i3]) (fun d o hd q => hk d o (fun m => hd (by
        have e' : d = z ∨ d = TO ∨ d = i1 ∨ d = i2 ∨ d = i3 := by simpa using m
        rcases e' with q | q | q | q | q <;> simp [q])) q) hf
  self := fun A i s Q E st h => wpAny_pyIter_zip st.1 h
def iZip3 (K : PySem.W.Frag) (ta : TA) : TI := fun σ H R => ta σ H fun vs H1 => ∃ a b c xs ys zs, vs = [.ref a, .ref b, .ref c] ∧ SqT K H1 a xs ∧ SqT K H1 b ys ∧ SqT K H1 c zs ∧ R (Itz3 K a b c) H1
theorem pi_zip3 {X : Cx} {e e2 e3 : Expr} {ta : TA} {p pos tpos : Pos} {elts : List Expr} {kk : Nat} (hg : Gl X "zip") (hm : X.mg "zip" = none) (ha : PA X [e, e2, e3] ta)
    (hs : starEach [e, e2, e3] X.env = (false, eval e X.env) :: starEach [e2, e3] X.env := by rfl) (hpl : (backTo pos (starEach [e2, e3] X.env)).any (·.1) = false := by rfl) :
    PI X (.Tuple elts kk tpos) (.Call (.Name "zip" p) [e, e2, e3] [] pos) (iZip3 X.K ta) := by
  refine ⟨fun pins s σ H R I h => ?_⟩
  refine Call_ (ld_blt I hg hm PyProof.Rows.boot_zip (PyProof.Rows.callWith_type1 (thn (ha.run pos pins s σ H _ I h) fun us s1 ⟨vs, H1, I1, r1, q1⟩ => ?_) hs hpl))
  obtain ⟨a, b, c, xs, ys, zs, ex, hqx, hqy, hqz, q⟩ := q1
  subst ex
  cases r1 with
  | cons r rr =>
  cases rr with
  | cons r' rr =>
  cases rr with
  | cons r'' rr =>
  cases rr
  cases r
  cases r'
  cases r''
  obtain ⟨its, rv, p1, _⟩ := I1.tuple hqx
  obtain ⟨its2, rv2, p2, _⟩ := I1.tuple hqy
  obtain ⟨its3, rv3, p3, _⟩ := I1.tuple hqz
  have la : a < s1.heap.objs.size := by obtain ⟨_, q, _⟩ := p1; exact Heap.lt_size q
  have lb : b < s1.heap.objs.size := by obtain ⟨_, q, _⟩ := p2; exact Heap.lt_size q
  have lc : c < s1.heap.objs.size := by obtain ⟨_, q, _⟩ := p3; exact Heap.lt_size q
  refine zip_begins3 (begins_tuple a its.toArray) (begins_tuple b its2.toArray) (begins_tuple c its3.toArray) p1 p2 p3 fun h' hz hTI hTO h1 h2 h3 hsz hk => wpAny_pyIter_zip hz ?_
  have I2 : Inv X pins σ H1 { s1 with heap := h' } := I1.kept (t' := s1.toks) hk
  have S : sep3 (s1.heap.objs.size + 5) (s1.heap.objs.size + 3) (s1.heap.objs.size + 4) s1.heap.objs.size (s1.heap.objs.size + 1) (s1.heap.objs.size + 2) a b c :=
    ⟨zip_sep3 (fp1 := [a]) (fp2 := [b]) (fp3 := [c]) (by simpa using la) (by simpa using lb) (by simpa using lc), Nat.ne_of_lt la, Nat.ne_of_lt (Nat.lt_succ_of_lt lb), Nat.ne_of_lt (Nat.lt_succ_of_lt (Nat.lt_succ_of_lt lc))⟩
  refine ⟨s1.heap.objs.size + 5, [s1.heap.objs.size + 5, s1.heap.objs.size + 3, s1.heap.objs.size + 4, s1.heap.objs.size, s1.heap.objs.size + 1, s1.heap.objs.size + 2], _, _, H1, rfl, I2, turn_zip3 S, ⟨hz, hTI, ⟨_, _, _, hTO⟩, ⟨_, h1, rfl, rfl⟩, ⟨_, h2, rfl, rfl⟩, ⟨_, h3, rfl, rfl⟩⟩, fun d hd => ?_, q⟩
  have e' : d = s1.heap.objs.size + 5 ∨ d = s1.heap.objs.size + 3 ∨ d = s1.heap.objs.size + 4 ∨ d = s1.heap.objs.size ∨ d = s1.heap.objs.size + 1 ∨ d = s1.heap.objs.size + 2 := by simpa using hd
  have hle : s1.heap.objs.size ≤ d := by
    rcases e' with z | z | z | z | z | z <;> rw [z] <;> first | exact Nat.le_add_right _ _ | exact Nat.le_refl _
  exact I1.fpOk hle (I1.hok.fresh hle)

/-! ### sum(tuple) -/
theorem sum_rawT {prog : Program} {w : World} {A : Around} {E : Value → Shared → Prop} {s : Shared} {l : Addr} {its : List Value} {ns : List Int} {Q : Value → Shared → Prop} (hh : A.handled = none) (hl : s.heap.IsTuple l its.toArray) (hi : IntsAre its ns)
    (h : ∀ h' tk t', (∀ b o, s.heap.get? b = some o → h'.get? b = some o) → Q (.int ns.sum t') { s with heap := h', toks := tk }) : wpAny (model prog w) A (call (.builtin "sum") [.ref l]) Q E s := by
  obtain ⟨xs, e⟩ := hi.allInts.items
  have hn : numsOf (intItems xs).toList = ns := by rw [← e]; exact hi.numsOf
  rw [nums_intItems] at hn
  rw [e] at hl
  have hlt : l < s.heap.objs.size := by obtain ⟨_, q, _⟩ := hl; exact Heap.lt_size q
  have hne : l ≠ s.heap.objs.size := Nat.ne_of_lt hlt
  refine call_sum_walkG (wpAny_pyIter_tuple hl ⟨_, _, _, _, _, _, numAt xs, rfl, Walks.tuple (A := A.in1) hh _ l hne (intItems xs), ⟨⟨_, Heap.get?_push_size _ rfl, rfl, rfl⟩, hl.push _⟩, fun b hb => ?_, (fun _ _ => intItems_at), fun h' tk t' hk => ?_⟩)
  · have e' : b = s.heap.objs.size ∨ b = l := by simpa using hb
    rw [Heap.size_push]
    rcases e' with z | z
    · rw [z]; exact Nat.lt_succ_self _
    · rw [z]; exact Nat.lt_succ_of_lt hlt
  · have q := h h' tk t' fun b o eo => hk b o (fun hmem => by
      have e' : b = s.heap.objs.size := by simpa using hmem
      exact absurd (e' ▸ Heap.lt_size eo) (Nat.lt_irrefl _)) (Heap.get?_push_of_some _ eo)
    rw [← hn] at q
    have e3 : preSum (numAt xs) (intItems xs).size = (xs.toList.map (·.1)).sum := by
      rw [preSum_eq, List.take_of_length_le (by simp [intItems])]
    rw [e3]
    exact q
def rSumT (K : PySem.W.Frag) : List V → Hp → VK → Prop := fun vs H Q => ∃ (a : Addr) (ns : List Int), vs = [V.ref a] ∧ SqT K H a (ns.map V.int) ∧ Q (.int ns.sum) H
theorem cr_sumT {X : Cx} (hc : X.calm = true) : CallR X (.builtin "sum") (rSumT X.K) := by
  intro pins s σ H vs us Q I r h
  obtain ⟨a, ns, rfl, hs, q⟩ := h
  obtain ⟨its, rv, hl, _⟩ := I.tuple hs
  rw [Vals.ref1 r]
  exact sum_rawT (I.ok.hd hc) hl rv.ints fun h' tk t' hk => ⟨.int _, H, I.kept hk, ⟨_, rfl⟩, q⟩

/-! ### calls by keywords alone -/
section
variable {X : Cx} {CX : CXT} {k : Nat} {f C : Addr} {fd : FuncData} {ps ks : List Str} {sp : Sp} {E : XK} {x m : Str} {p pos apos : Pos} {o : Expr} {kws : List Keyword} {ta : TE} {tk : TA} {g : List Value → List Value → List Value} {gV : List V → List V → List V}
theorem pe_callK0 (F : FnOk X.prog X.w X.K X.mg X.base CX k f fd ps sp) (hr : Room k X.A) (hg : Gl X x) (hm : X.mg x = some (.ref f)) (hk : PySem.W.keepIn X.K (.ref f) = true) (hb : KBn X.K fd ps 0 ks g gV) (hx : Passes CX X E)
    (hkw : PK X kws tk) (hall : (backToKw pos (keywordEach kws X.env)).all (·.1.isSome) = true := by rfl) (hks : (backToKw pos (keywordEach kws X.env)).filterMap (·.1) = ks := by rfl)
    (hdb : (x == ("__debug__" : Str)) = false := by decide)
    (hpl : ((backTo pos (starEach [] X.env)).any (·.1) || (backToKw pos (keywordEach kws X.env)).any (·.1.isNone)) = false := by rfl) :
    PE X (.Call (.Name x p) [] kws pos) (fun σ H Q => tk σ H fun zs H2 => zs.length = ks.length ∧ sp (gV [] zs) H2 Q E) := by
  refine ⟨fun pins s σ H Q I h => ?_⟩
  refine wpAny_Call_Name_kw (ld_glob I hg hm ?_ hdb)
  refine PySem.W.callWith_KW0 (h₀ := X.base) I.ok.mod.kin hk hall (thn (hkw.run pos pins s σ H _ I h) fun ws s2 ⟨zs, H2, I2, rz, l2, q2⟩ => ⟨I2.kIn, ?_⟩) hpl
  rw [hks]
  exact run_fnN F hr hb hx I2 .nil rz rfl l2 q2
/-- o.m(k = v, ..) -/
theorem pe_methK0 {pl : Sem Bool} (he : PE X o ta) (c : Cls X.K C) (hm : Meth X.K C m f) (F : FnOk X.prog X.w X.K X.mg X.base CX k f fd ps sp) (hr : Room k X.A) (hb : KBn X.K fd ps 1 ks g gV) (hx : Passes CX X E) (hkw : PK X kws tk)
    (hall : (backToKw pos (keywordEach kws X.env)).all (·.1.isSome) = true := by rfl) (hks : (backToKw pos (keywordEach kws X.env)).filterMap (·.1) = ks := by rfl)
    (hpl : ((backTo pos (starEach [] X.env)).any (·.1) || (backToKw pos (keywordEach kws X.env)).any (·.1.isNone)) = false := by rfl)
    (ht : eval (.Call (.Attribute o m apos) [] kws pos) X.env = (do
      let ov ← eval o X.env
      standAt apos.atName
      let (f, first) ← holding [ov] (getMethod ov m pl)
      callWith pos f first (backTo pos (starEach [] X.env)) (backToKw pos (keywordEach kws X.env))) := by rfl) :
    PE X (.Call (.Attribute o m apos) [] kws pos) (fun σ H Q => ta σ H fun x H1 => ∃ a dx fs, x = .ref a ∧ H1 a = some (.ins C dx fs) ∧ fs.lookup m = none ∧ tk σ H1 fun zs H2 => zs.length = ks.length ∧ sp (gV [x] zs) H2 Q E) := by
  refine ⟨fun pins s σ H Q I h => ?_⟩
  refine PySem.W.methodCall_KW (pl := pl) (thn (he.run pins s σ H _ I h) fun u s1 ⟨x, H1, I1, rx, a, dx, fs, ex, ea, l, q⟩ => ?_) ht
  subst ex
  obtain rfl : u = Value.ref a := rx
  refine getmeth_ok I1 ea c hm l ?_
  refine PySem.W.callWith_KW0 (first := [.ref a]) (h₀ := X.base) I.ok.mod.kin hm.kp hall (thn (hkw.run pos pins s1 σ H1 _ I1 q) fun ws s2 ⟨zs, H2, I2, rz, l2, q2⟩ => ⟨I2.kIn, ?_⟩) hpl
  rw [hks]
  exact run_fnN (us := [.ref a]) (vs := [.ref a]) F hr hb hx I2 (.cons rfl .nil) rz rfl l2 q2
end
end OwL
end

section
set_option linter.all false
set_option maxRecDepth 100000
set_option maxHeartbeats 4000000
set_option autoImplicit false
/-! Data over the abstract heap: what a value stands for; slots; judgements over data. -/
namespace Ow
open PySem L2 OwL

/-! ### heaps -/
def Ex (H H' : Hp) : Prop := ∀ a o, H a = some o → H' a = some o
theorem Ex.refl (H : Hp) : Ex H H := fun _ _ h => h
theorem Ex.trans {H H1 H2 : Hp} (a : Ex H H1) (b : Ex H1 H2) : Ex H H2 := fun x o h => b x o (a x o h)
theorem Ex.new {H : Hp} {p : Addr} {o : HO} (h : H p = none) : Ex H (upd H p o) := fun a u e => by
  rw [upd_ne (ne_of_none e h)]
  exact e
theorem Ex.mut {H H' : Hp} {p : Addr} {o : HO} (e : Ex H H') (h : H p = none) : Ex H (upd H' p o) := fun a u ha => by
  rw [upd_ne (ne_of_none ha h)]
  exact e a u ha
theorem Ex.back {H H' : Hp} {p : Addr} (e : Ex H H') (h : H' p = none) : H p = none := by
  cases h1 : H p with
  | none => rfl
  | some o =>
    rw [e p o h1] at h
    cases h
/-- tuples stay -/
def Tx (H H' : Hp) : Prop := ∀ a xs, H a = some (.tup xs) → H' a = some (.tup xs)
theorem Tx.refl (H : Hp) : Tx H H := fun _ _ h => h
theorem Tx.trans {H H1 H2 : Hp} (a : Tx H H1) (b : Tx H1 H2) : Tx H H2 := fun x o h => b x o (a x o h)
theorem Ex.tx {H H' : Hp} (e : Ex H H') : Tx H H' := fun a xs h => e a _ h
theorem Tx.mut {H : Hp} {p : Addr} {xs ys : List V} (h : H p = some (.lst xs)) : Tx H (upd H p (HO.lst ys)) := fun a zs e => by
  have : a ≠ p := fun z => by
    rw [z, h] at e
    cases e
  rw [upd_ne this]
  exact e

/-! ### data -/
mutual
inductive Dv (H : Hp) : V → PyData → Prop
  | non : Dv H .non .none
  | bl (b : Bool) : Dv H (.bl b) (.bool b)
  | int (i : Int) : Dv H (.int i) (.int i)
  | str (x : Str) : Dv H (.str x) (.str x)
  | lst {a : Addr} {xs : List V} {ds : List PyData} : H a = some (.lst xs) → Dvs H xs ds → Dv H (.ref a) (.list ds)
  | tup {a : Addr} {xs : List V} {ds : List PyData} : H a = some (.tup xs) → Dvs H xs ds → Dv H (.ref a) (.tuple ds)
inductive Dvs (H : Hp) : List V → List PyData → Prop
  | nil : Dvs H [] []
  | cons {v : V} {vs : List V} {d : PyData} {ds : List PyData} : Dv H v d → Dvs H vs ds → Dvs H (v :: vs) (d :: ds)
end
mutual
/-- no list within -/
def imm : PyData → Bool
  | .none => true
  | .bool _ => true
  | .int _ => true
  | .str _ => true
  | .list _ => false
  | .tuple ds => imms ds
  | .dict _ => false
def imms : List PyData → Bool
  | [] => true
  | d :: ds => imm d && imms ds
end
theorem imms_cons {d : PyData} {ds : List PyData} : imms (d :: ds) = true ↔ imm d = true ∧ imms ds = true := by
  rw [show imms (d :: ds) = (imm d && imms ds) by rw [imms], Bool.and_eq_true]
theorem imms_iff : ∀ {ds : List PyData}, imms ds = true ↔ ∀ d ∈ ds, imm d = true
  | [] => by simp [imms]
  | d :: ds => by
    rw [imms_cons, imms_iff (ds := ds)]
    simp
theorem imms_append {as bs : List PyData} (h1 : imms as = true) (h2 : imms bs = true) : imms (as ++ bs) = true :=
  imms_iff.mpr fun d hd => (List.mem_append.mp hd).elim (imms_iff.mp h1 d) (imms_iff.mp h2 d)
theorem imms_get {ds : List PyData} {i : Nat} {d : PyData} (h : imms ds = true) (e : ds[i]? = some d) : imm d = true := imms_iff.mp h d (List.mem_of_getElem? e)
theorem imms_map {α : Type} {f : α → PyData} {l : List α} (h : ∀ a ∈ l, imm (f a) = true) : imms (l.map f) = true := imms_iff.mpr fun d hd => by
  obtain ⟨a, ha, rfl⟩ := List.mem_map.mp hd
  exact h a ha
mutual
theorem Dv.ex {H H' : Hp} (e : Ex H H') : ∀ {d : PyData} {v : V}, Dv H v d → Dv H' v d
  | _, _, .non => .non
  | _, _, .bl b => .bl b
  | _, _, .int i => .int i
  | _, _, .str x => .str x
  | _, _, .lst h hs => .lst (e _ _ h) (Dvs.ex e hs)
  | _, _, .tup h hs => .tup (e _ _ h) (Dvs.ex e hs)
theorem Dvs.ex {H H' : Hp} (e : Ex H H') : ∀ {ds : List PyData} {vs : List V}, Dvs H vs ds → Dvs H' vs ds
  | _, _, .nil => .nil
  | _, _, .cons h hs => .cons (Dv.ex e h) (Dvs.ex e hs)
end
mutual
theorem Dv.tx {H H' : Hp} (e : Tx H H') : ∀ {d : PyData} {v : V}, imm d = true → Dv H v d → Dv H' v d
  | _, _, _, .non => .non
  | _, _, _, .bl b => .bl b
  | _, _, _, .int i => .int i
  | _, _, _, .str x => .str x
  | _, _, i, .tup h hs => .tup (e _ _ h) (Dvs.tx e (show imms _ = true from i) hs)
theorem Dvs.tx {H H' : Hp} (e : Tx H H') : ∀ {ds : List PyData} {vs : List V}, imms ds = true → Dvs H vs ds → Dvs H' vs ds
  | _, _, _, .nil => .nil
  | _, _, i, .cons h hs => .cons (Dv.tx e (imms_cons.mp i).1 h) (Dvs.tx e (imms_cons.mp i).2 hs)
end
mutual
theorem Dv.dp {K : PySem.W.Frag} {H : Hp} : ∀ {d : PyData} {v : V}, Dv H v d → Dp K H v d
  | _, _, .non => .non
  | _, _, .bl b => .bl b
  | _, _, .int i => .int i
  | _, _, .str x => .str x
  | _, _, .lst h hs => .lst (.inl (.inl h)) (Dvs.dp hs)
  | _, _, .tup h hs => .tup (.inl (.inl h)) (Dvs.dp hs)
theorem Dvs.dp {K : PySem.W.Frag} {H : Hp} : ∀ {ds : List PyData} {vs : List V}, Dvs H vs ds → DpAll K H vs ds
  | _, _, .nil => .nil
  | _, _, .cons h hs => .cons (Dv.dp h) (Dvs.dp hs)
end
section
variable {H : Hp}
theorem Dvs.length : ∀ {vs : List V} {ds : List PyData}, Dvs H vs ds → vs.length = ds.length
  | _, _, .nil => rfl
  | _, _, .cons _ hs => by rw [List.length_cons, List.length_cons, Dvs.length hs]
theorem Dvs.get : ∀ {vs : List V} {ds : List PyData} {i : Nat} {v : V}, Dvs H vs ds → vs[i]? = some v → ∃ d, ds[i]? = some d ∧ Dv H v d
  | _, _, _, _, .nil, e => by simp at e
  | _, _, 0, _, .cons h _, e => ⟨_, rfl, by
    have : _ = _ := Option.some.inj e
    rw [← this]
    exact h⟩
  | _, _, i + 1, v, .cons _ hs, e => Dvs.get (i := i) hs e
theorem Dvs.get' : ∀ {vs : List V} {ds : List PyData} {i : Nat} {d : PyData}, Dvs H vs ds → ds[i]? = some d → ∃ v, vs[i]? = some v ∧ Dv H v d
  | _, _, _, _, .nil, e => by simp at e
  | _, _, 0, _, .cons h _, e => ⟨_, rfl, by
    have : _ = _ := Option.some.inj e
    rw [← this]
    exact h⟩
  | _, _, i + 1, v, .cons _ hs, e => Dvs.get' (i := i) hs e
theorem Dvs.append : ∀ {vs ws : List V} {ds es : List PyData}, Dvs H vs ds → Dvs H ws es → Dvs H (vs ++ ws) (ds ++ es)
  | _, _, _, _, .nil, s => s
  | _, _, _, _, .cons h t, s => .cons h (Dvs.append t s)
theorem Dvs.take : ∀ {vs : List V} {ds : List PyData} (n : Nat), Dvs H vs ds → Dvs H (vs.take n) (ds.take n)
  | _, _, 0, _ => .nil
  | _, _, _ + 1, .nil => .nil
  | _, _, n + 1, .cons r t => .cons r (Dvs.take n t)
theorem Dvs.drop : ∀ {vs : List V} {ds : List PyData} (n : Nat), Dvs H vs ds → Dvs H (vs.drop n) (ds.drop n)
  | _, _, 0, r => r
  | _, _, _ + 1, .nil => .nil
  | _, _, n + 1, .cons _ t => Dvs.drop n t
theorem Dvs.set {x : V} {d : PyData} (r : Dv H x d) : ∀ {vs : List V} {ds : List PyData} (i : Nat), Dvs H vs ds → Dvs H (vs.set i x) (ds.set i d)
  | _, _, _, .nil => .nil
  | _, _, 0, .cons _ t => .cons r t
  | _, _, i + 1, .cons q t => .cons q (Dvs.set r i t)
theorem Dvs.rev {vs : List V} {ds : List PyData} (h : Dvs H vs ds) : Dvs H vs.reverse ds.reverse := by
  induction h using Dvs.rec (motive_1 := fun _ _ _ => True) with
  | nil => exact .nil
  | cons h hs _ ih =>
    rw [List.reverse_cons, List.reverse_cons]
    exact ih.append (.cons h .nil)
  | _ => trivial
theorem Dvs.rep {vs : List V} {ds : List PyData} (h : Dvs H vs ds) : ∀ n, Dvs H (List.replicate n vs).flatten (List.replicate n ds).flatten
  | 0 => .nil
  | n + 1 => by
    rw [List.replicate_succ, List.replicate_succ, List.flatten_cons, List.flatten_cons]
    exact h.append (Dvs.rep h n)
theorem Dvs.ints : ∀ {vs : List V} {ns : List Int}, Dvs H vs (ns.map PyData.int) → vs = ns.map V.int
  | _, [], .nil => rfl
  | _, n :: ns, .cons h hs => by
    rw [Dvs.ints hs]
    cases h
    rfl
theorem Dvs.bools : ∀ {vs : List V} {ns : List Bool}, Dvs H vs (ns.map PyData.bool) → vs = ns.map V.bl
  | _, [], .nil => rfl
  | _, n :: ns, .cons h hs => by
    rw [Dvs.bools hs]
    cases h
    rfl
theorem Dv.toInt {v : V} {i : Int} (h : Dv H v (.int i)) : v = .int i := by cases h; rfl
theorem Dv.toBl {v : V} {i : Bool} (h : Dv H v (.bool i)) : v = .bl i := by cases h; rfl
theorem Dv.toStr {v : V} {i : Str} (h : Dv H v (.str i)) : v = .str i := by cases h; rfl
theorem Dv.toTup {v : V} {ds : List PyData} (h : Dv H v (.tuple ds)) : ∃ a xs, v = .ref a ∧ H a = some (.tup xs) ∧ Dvs H xs ds := by
  cases h with
  | tup h hs => exact ⟨_, _, rfl, h, hs⟩
theorem Dv.toLst {v : V} {ds : List PyData} (h : Dv H v (.list ds)) : ∃ a xs, v = .ref a ∧ H a = some (.lst xs) ∧ Dvs H xs ds := by
  cases h with
  | lst h hs => exact ⟨_, _, rfl, h, hs⟩
theorem Dvs.one {vs : List V} {d : PyData} (h : Dvs H vs [d]) : ∃ v, vs = [v] ∧ Dv H v d := by
  cases h with
  | cons h hs => cases hs; exact ⟨_, rfl, h⟩
end
theorem sz {n : Nat} (h : n ≤ 100000) : n ≤ sizeLine := Nat.le_trans h (by decide)
theorem szl {n : Nat} (h : n < 100000) : n < sizeLine := Nat.lt_of_lt_of_le h (by decide)
theorem atI_d {H : Hp} {vs : List V} {ds : List PyData} (h : Dvs H vs ds) {i : Int} {d : PyData} (e : atI ds i = some d) : ∃ v, atI vs i = some v ∧ Dv H v d := by
  unfold atI at e ⊢
  rw [← h.length] at e
  cases q : ixN vs.length i with
  | none =>
    rw [q] at e
    cases e
  | some j =>
    rw [q] at e
    obtain ⟨v, hv, hd⟩ := h.get' (show ds[j]? = some d from e)
    exact ⟨v, hv, hd⟩
def cutD (ds : List PyData) (lo hi : Option Int) : List PyData := (ds.drop (HT.sIx ds.length 0 lo)).take (HT.sIx ds.length ds.length hi - HT.sIx ds.length 0 lo)
theorem cut_d {H : Hp} {vs : List V} {ds : List PyData} (h : Dvs H vs ds) (lo hi : Option Int) : Dvs H (cutV vs lo hi) (cutD ds lo hi) := by
  unfold cutV cutD
  rw [h.length]
  exact (h.drop _).take _

/-! ### slots -/
/-- what a slot is known to hold: nothing; data without lists; an argument as it was handed in (arg: by the heap at the entry); a list of the def's own -/
inductive Sl where
  | any
  | dat (d : PyData)
  | arg (d : PyData)
  | lst (ds : List PyData)
  | fix (v : V)
  | obj (C : Addr) (fsd : List (Str × PyData))
  | pre (F : Hp → V → Prop)
abbrev Sls := List Sl
/-- a list slot's address -/
def Own (S : List Sl) (σ : L2.St) (a : Addr) : Prop := ∃ (i : Nat) (ds : List PyData), S[i]? = some (Sl.lst ds) ∧ σ[i]? = some (some (V.ref a))
/-- a slot's word, but for the lists' standing apart -/
def SlV (A B H : Hp) (v : Option V) : Sl → Prop
  | .any => True
  | .fix u => v = some u
  | .obj C fsd => ∃ a dx fs, v = some (V.ref a) ∧ A a = some (HO.ins C dx fs) ∧ ∀ x d, fsd.lookup x = some d → ∃ u, fs.lookup x = some u ∧ Dv A u d
  | .pre F => ∃ u, v = some u ∧ F A u
  | .dat d => imm d = true ∧ ∃ u, v = some u ∧ Dv H u d
  | .arg d => ∃ u, v = some u ∧ Dv A u d
  | .lst ds => imms ds = true ∧ ∃ p xs, v = some (V.ref p) ∧ B p = none ∧ H p = some (HO.lst xs) ∧ Dvs H xs ds
structure EnvOk (A B H : Hp) (σ : L2.St) (S : List Sl) : Prop where
  ax : Ex A B
  ex : Ex B H
  len : σ.length = S.length
  sl : ∀ (i : Nat) (o : Option V) (s : Sl), σ[i]? = some o → S[i]? = some s → SlV A B H o s
  dis : ∀ (i j : Nat) (ds es : List PyData) (p : Addr), S[i]? = some (Sl.lst ds) → S[j]? = some (Sl.lst es) → σ[i]? = some (some (V.ref p)) → σ[j]? = some (some (V.ref p)) → i = j
section
variable {A B G H H' : Hp} {σ : L2.St} {S : List Sl}
theorem SlV.ex {o : Option V} (e : Ex H H') : ∀ {s : Sl}, SlV A B H o s → SlV A B H' o s
  | .any, _ => trivial
  | .fix u, h => h
  | .obj C fsd, h => h
  | .pre F, h => h
  | .dat d, ⟨i, u, h, r⟩ => ⟨i, u, h, r.ex e⟩
  | .arg d, h => h
  | .lst ds, ⟨i, p, xs, h, h2, h3, h4⟩ => ⟨i, p, xs, h, h2, e _ _ h3, h4.ex e⟩
theorem EnvOk.mono (E : EnvOk A B H σ S) (e : Ex H H') : EnvOk A B H' σ S := ⟨E.ax, E.ex.trans e, E.len, fun i o s h1 h2 => (E.sl i o s h1 h2).ex e, E.dis⟩
theorem EnvOk.at (E : EnvOk A B H σ S) {i : Nat} {s : Sl} (h : S[i]? = some s) : ∃ o, σ[i]? = some o ∧ SlV A B H o s := by
  have hl : i < σ.length := by
    rw [E.len]
    exact (List.getElem?_eq_some_iff.mp h).1
  exact ⟨σ[i], List.getElem?_eq_getElem hl, E.sl i _ s (List.getElem?_eq_getElem hl) h⟩
theorem EnvOk.val (E : EnvOk A B H σ S) {i : Nat} {d : PyData} (h : S[i]? = some (Sl.dat d)) : ∃ v, σ[i]? = some (some v) ∧ Dv H v d := by
  obtain ⟨o, h1, _, u, rfl, h2⟩ := E.at h
  exact ⟨u, h1, h2⟩
theorem EnvOk.varg (E : EnvOk A B H σ S) {i : Nat} {d : PyData} (h : S[i]? = some (Sl.arg d)) : ∃ v, σ[i]? = some (some v) ∧ Dv A v d := by
  obtain ⟨o, h1, u, rfl, h2⟩ := E.at h
  exact ⟨u, h1, h2⟩
theorem EnvOk.vlst (E : EnvOk A B H σ S) {i : Nat} {ds : List PyData} (h : S[i]? = some (Sl.lst ds)) : imms ds = true ∧ ∃ p xs, σ[i]? = some (some (V.ref p)) ∧ B p = none ∧ H p = some (HO.lst xs) ∧ Dvs H xs ds := by
  obtain ⟨o, h1, im, p, xs, rfl, h2⟩ := E.at h
  exact ⟨im, p, xs, h1, h2⟩
theorem get_set {α : Type} {l : List α} {i j : Nat} {x y : α} (h : (l.set i x)[j]? = some y) : (i = j ∧ i < l.length ∧ y = x) ∨ (i ≠ j ∧ l[j]? = some y) := by
  by_cases hj : i = j
  · subst hj
    by_cases hl : i < l.length
    · rw [List.getElem?_set_self hl] at h
      exact .inl ⟨rfl, hl, (Option.some.inj h).symm⟩
    · rw [List.getElem?_eq_none (by rw [List.length_set]; omega)] at h
      cases h
  · rw [List.getElem?_set_ne hj] at h
    exact .inr ⟨hj, h⟩
/-- a slot is stored with something that is no list of the def's own -/
theorem EnvOk.put (E : EnvOk A B H σ S) {i : Nat} {o : Option V} {s : Sl} (h : SlV A B H o s) (hs : ∀ ds, s ≠ Sl.lst ds) : EnvOk A B H (σ.set i o) (S.set i s) where
  ax := E.ax
  ex := E.ex
  len := by rw [List.length_set, List.length_set, E.len]
  sl := fun j o' s' h1 h2 => by
    rcases get_set h1 with ⟨rfl, _, rfl⟩ | ⟨n1, g1⟩
    · rcases get_set h2 with ⟨_, _, rfl⟩ | ⟨n2, _⟩
      · exact h
      · exact absurd rfl n2
    · rcases get_set h2 with ⟨rfl, _⟩ | ⟨_, g2⟩
      · exact absurd rfl n1
      · exact E.sl j o' s' g1 g2
  dis := fun j k ds es p e1 e2 e3 e4 => by
    rcases get_set e1 with ⟨_, _, q⟩ | ⟨n1, g1⟩
    · exact absurd q.symm (hs ds)
    rcases get_set e2 with ⟨_, _, q⟩ | ⟨n2, g2⟩
    · exact absurd q.symm (hs es)
    rcases get_set e3 with ⟨q, _⟩ | ⟨_, g3⟩
    · exact absurd q n1
    rcases get_set e4 with ⟨q, _⟩ | ⟨_, g4⟩
    · exact absurd q n2
    exact E.dis j k ds es p g1 g2 g3 g4
theorem EnvOk.setDat (E : EnvOk A B H σ S) {i : Nat} {v : V} {d : PyData} (im : imm d = true) (h : Dv H v d) : EnvOk A B H (σ.set i (some v)) (S.set i (Sl.dat d)) := E.put ⟨im, v, rfl, h⟩ fun _ z => nomatch z
theorem EnvOk.setArg (E : EnvOk A B H σ S) {i : Nat} {v : V} {d : PyData} (h : Dv A v d) : EnvOk A B H (σ.set i (some v)) (S.set i (Sl.arg d)) := E.put ⟨v, rfl, h⟩ fun _ z => nomatch z
theorem EnvOk.forget (E : EnvOk A B H σ S) {i : Nat} {o : Option V} : EnvOk A B H (σ.set i o) (S.set i Sl.any) := E.put trivial fun _ z => nomatch z
theorem EnvOk.forget' (E : EnvOk A B H σ S) {i : Nat} : EnvOk A B H σ (S.set i Sl.any) := by
  by_cases h : i < σ.length
  · have q := E.forget (i := i) (o := σ[i])
    rw [show σ.set i σ[i] = σ from List.set_getElem_self h] at q
    exact q
  · have e : S.set i Sl.any = S := List.set_eq_of_length_le (by rw [← E.len]; omega)
    rw [e]
    exact E
/-- a slot is stored with a list whose address no other list slot has -/
theorem EnvOk.setLst (E : EnvOk A B H σ S) {i : Nat} {p : Addr} {xs : List V} {ds : List PyData} (im : imms ds = true) (hB : B p = none) (hp : H p = some (HO.lst xs)) (hs : Dvs H xs ds)
    (hn : ∀ (j : Nat) (es : List PyData), j ≠ i → S[j]? = some (Sl.lst es) → σ[j]? ≠ some (some (V.ref p))) : EnvOk A B H (σ.set i (some (V.ref p))) (S.set i (Sl.lst ds)) where
  ax := E.ax
  ex := E.ex
  len := by rw [List.length_set, List.length_set, E.len]
  sl := fun j o' s' h1 h2 => by
    rcases get_set h1 with ⟨rfl, _, rfl⟩ | ⟨n1, g1⟩
    · rcases get_set h2 with ⟨_, _, rfl⟩ | ⟨n2, _⟩
      · exact ⟨im, p, xs, rfl, hB, hp, hs⟩
      · exact absurd rfl n2
    · rcases get_set h2 with ⟨rfl, _⟩ | ⟨_, g2⟩
      · exact absurd rfl n1
      · exact E.sl j o' s' g1 g2
  dis := fun j k es fs q e1 e2 e3 e4 => by
    rcases get_set e1 with ⟨rfl, l1, _⟩ | ⟨n1, g1⟩
    · rcases get_set e2 with ⟨rfl, _⟩ | ⟨n2, g2⟩
      · rfl
      · rcases get_set e3 with ⟨_, _, z⟩ | ⟨n3, _⟩
        · rcases get_set e4 with ⟨z4, _⟩ | ⟨_, g4⟩
          · exact absurd z4 n2
          · have z' : q = p := by
              have := Option.some.inj z
              injection this
            rw [z'] at g4
            exact absurd g4 (hn k fs (Ne.symm n2) g2)
        · exact absurd rfl n3
    · rcases get_set e3 with ⟨z, _⟩ | ⟨_, g3⟩
      · exact absurd z n1
      · rcases get_set e2 with ⟨rfl, _⟩ | ⟨n2, g2⟩
        · rcases get_set e4 with ⟨_, _, z⟩ | ⟨n4, _⟩
          · have z' : q = p := by
              have := Option.some.inj z
              injection this
            rw [z'] at g3
            exact absurd g3 (hn j es (Ne.symm n1) g1)
          · exact absurd rfl n4
        · rcases get_set e4 with ⟨z, _⟩ | ⟨_, g4⟩
          · exact absurd z n2
          · exact E.dis j k es fs q g1 g2 g3 g4
/-- .. with a new list -/
theorem EnvOk.setNew (E : EnvOk A B H σ S) {i : Nat} {p : Addr} {xs : List V} {ds : List PyData} (im : imms ds = true) (e : Ex H H') (hn : H p = none) (hp : H' p = some (HO.lst xs)) (hs : Dvs H' xs ds) :
    EnvOk A B H' (σ.set i (some (V.ref p))) (S.set i (Sl.lst ds)) :=
  (E.mono e).setLst im (E.ex.back hn) hp hs fun j es _ h2 h3 => by
    obtain ⟨_, q, ys, g1, _, g3, _⟩ := E.vlst h2
    rw [h3] at g1
    cases g1
    rw [hn] at g3
    cases g3
/-- a list slot's list is changed in place -/
theorem EnvOk.mutate (E : EnvOk A B H σ S) {i : Nat} {p : Addr} {ys : List V} {ds es : List PyData} (hi : S[i]? = some (Sl.lst ds)) (hp : σ[i]? = some (some (V.ref p))) (im : imms es = true) (hs : Dvs H ys es) :
    EnvOk A B (upd H p (HO.lst ys)) σ (S.set i (Sl.lst es)) := by
  obtain ⟨im0, p0, xs, h1, h2, h3, h4⟩ := E.vlst hi
  rw [hp] at h1
  cases h1
  have tx : Tx H (upd H p (HO.lst ys)) := Tx.mut h3
  have hil : i < S.length := (List.getElem?_eq_some_iff.mp hi).1
  refine ⟨E.ax, E.ex.mut h2, by rw [List.length_set, E.len], fun j o s e1 e2 => ?_, fun j k fs gs q e1 e2 e3 e4 => ?_⟩
  · rcases get_set e2 with ⟨rfl, _, rfl⟩ | ⟨n, g⟩
    · rw [hp] at e1
      cases e1
      exact ⟨im, p, ys, rfl, h2, upd_same, hs.tx tx im⟩
    · have q := E.sl j o s e1 g
      cases s with
      | any => trivial
      | fix u => exact q
      | obj C fsd => exact q
      | pre F => exact q
      | dat d =>
        obtain ⟨a, u, b, r⟩ := q
        exact ⟨a, u, b, r.tx tx a⟩
      | arg d => exact q
      | lst fs =>
        obtain ⟨im2, p2, zs, rfl, q2, q3, q4⟩ := q
        have hne : p2 ≠ p := fun z => n (E.dis i j ds fs p hi g hp (by rw [← z]; exact e1))
        exact ⟨im2, p2, zs, rfl, q2, by rw [upd_ne hne]; exact q3, q4.tx tx im2⟩
  · have f : ∀ (j : Nat) (fs : List PyData), (S.set i (Sl.lst es))[j]? = some (Sl.lst fs) → ∃ gs, S[j]? = some (Sl.lst gs) := fun j fs e => by
      rcases get_set e with ⟨rfl, _⟩ | ⟨_, g⟩
      · exact ⟨ds, hi⟩
      · exact ⟨fs, g⟩
    obtain ⟨_, r1⟩ := f j fs e1
    obtain ⟨_, r2⟩ := f k gs e2
    exact E.dis j k _ _ q r1 r2 e3 e4
theorem EnvOk.notOwn (E : EnvOk A B H σ S) {a : Addr} {o : HO} (e : B a = some o) : ¬ Own S σ a := fun ⟨i, ds, h1, h2⟩ => by
  obtain ⟨_, p, xs, q1, q2, _⟩ := E.vlst h1
  rw [h2] at q1
  cases q1
  rw [q2] at e
  cases e
/-- the base may hold all that is no list slot's -/
theorem EnvOk.grow (E : EnvOk A B H σ S) : ∃ G : Hp, Ex B G ∧ EnvOk A G H σ S ∧ ∀ a o, H a = some o → ¬ Own S σ a → G a = some o := by
  classical
  have g1 : ∀ a o, H a = some o → ¬ Own S σ a → (if Own S σ a then none else H a) = some o := fun a o e n => by
    rw [if_neg n]
    exact e
  have g2 : ∀ a o, (if Own S σ a then none else H a) = some o → H a = some o := fun a o e => by
    by_cases n : Own S σ a
    · rw [if_pos n] at e
      cases e
    · rw [if_neg n] at e
      exact e
  have g3 : Ex B fun a => if Own S σ a then none else H a := fun a o e => g1 a o (E.ex a o e) (E.notOwn e)
  refine ⟨fun a => if Own S σ a then none else H a, g3, ⟨E.ax.trans g3, g2, E.len, fun i o s h1 h2 => ?_, E.dis⟩, g1⟩
  have q := E.sl i o s h1 h2
  cases s with
  | any => trivial
  | fix u => exact q
  | obj C fsd => exact q
  | pre F => exact q
  | dat d => exact q
  | arg d => exact q
  | lst ds =>
    obtain ⟨im, p, xs, rfl, q2, q3, q4⟩ := q
    exact ⟨im, p, xs, rfl, if_pos ⟨i, ds, h2, h1⟩, q3, q4⟩
theorem EnvOk.base (E : EnvOk A G H σ S) (ax : Ex A B) (e : Ex B G) : EnvOk A B H σ S where
  ax := ax
  ex := e.trans E.ex
  len := E.len
  sl := fun i o s h1 h2 => by
    have q := E.sl i o s h1 h2
    cases s with
    | any => trivial
    | fix u => exact q
    | obj C fsd => exact q
    | pre F => exact q
    | dat d => exact q
    | arg d => exact q
    | lst ds =>
      obtain ⟨im, p, xs, rfl, q2, q3, q4⟩ := q
      exact ⟨im, p, xs, rfl, e.back q2, q3, q4⟩
  dis := E.dis
end
end Ow
end

section
set_option linter.all false
set_option maxRecDepth 100000
set_option maxHeartbeats 4000000
set_option autoImplicit false
/-! Judgements over data: what an expression gives, what statements lead to. -/
namespace Ow
open PySem L2 OwL

/-! ### the weakest readings -/
section
variable {X : Cx}
def WE (X : Cx) (e : Expr) : TE := fun σ H Q => ∃ t, PE X e t ∧ t σ H Q
def WT (X : Cx) (e : Expr) : TT := fun σ H Q => ∃ t, PT X e t ∧ t σ H Q
def WW (X : Cx) (e : Expr) : TT := fun σ H Q => ∃ t, PW X e t ∧ t σ H Q
def WA (X : Cx) (es : List Expr) : TA := fun σ H Q => ∃ t, PA X es t ∧ t σ H Q
def WO (X : Cx) (e : Option Expr) : TO := fun σ H Q => ∃ t, PO X e t ∧ t σ H Q
def WI (X : Cx) (tg e : Expr) : TI := fun σ H Q => ∃ t, PI X tg e t ∧ t σ H Q
def WG (X : Cx) (tg : Expr) : TG := fun v σ H Q => ∃ t, PG X tg t ∧ t v σ H Q
def WTs (X : Cx) (es : List Expr) : TT := fun σ H Q => ∃ t, PTs X es t ∧ t σ H Q
def WS (X : Cx) (st : Stmt) : TS := fun D σ H => ∃ t, PS X st t ∧ t D σ H
def WSs (X : Cx) (st : List Stmt) : TS := fun D σ H => ∃ t, PSs X st t ∧ t D σ H
theorem we {e : Expr} : PE X e (WE X e) := ⟨fun pins s σ H Q I ⟨_, p, q⟩ => p.run pins s σ H Q I q⟩
theorem wt {e : Expr} : PT X e (WT X e) := ⟨fun pins s σ H Q I ⟨_, p, q⟩ => p.run pins s σ H Q I q⟩
theorem ww {e : Expr} : PW X e (WW X e) := ⟨fun wh pins s σ H Q I ⟨_, p, q⟩ => p.run wh pins s σ H Q I q⟩
theorem wa {es : List Expr} : PA X es (WA X es) := ⟨fun pos pins s σ H Q I ⟨_, p, q⟩ => p.run pos pins s σ H Q I q⟩
theorem wo {e : Option Expr} : PO X e (WO X e) := ⟨fun pins s σ H Q I ⟨_, p, q⟩ => p.run pins s σ H Q I q⟩
theorem wi {tg e : Expr} : PI X tg e (WI X tg e) := ⟨fun pins s σ H R I ⟨_, p, q⟩ => p.run pins s σ H R I q⟩
theorem wg {tg : Expr} : PG X tg (WG X tg) := ⟨fun pins s σ H v u Q I r ⟨_, p, q⟩ => p.run pins s σ H v u Q I r q⟩
theorem wts {es : List Expr} : PTs X es (WTs X es) := ⟨fun pins s σ H Q I ⟨_, p, q⟩ => p.run pins s σ H Q I q⟩
theorem ws {st : Stmt} : PS X st (WS X st) := ⟨fun pins s σ H D I ⟨_, p, q⟩ => p.run pins s σ H D I q⟩
theorem wss {st : List Stmt} : PSs X st (WSs X st) := ⟨fun pins s σ H D I ⟨_, p, q⟩ => p.run pins s σ H D I q⟩
end

/-- what a body's place has -/
structure Ctx (X : Cx) : Prop where
  calm : X.calm = true
  hu : X.A.units + 65 < cLine
  nd : X.N.Nodup
  len : X.mg "len" = none
  tuple : X.mg "tuple" = none
  list : X.mg "list" = none
  range : X.mg "range" = none
  enumerate : X.mg "enumerate" = none
  zip : X.mg "zip" = none
  max : X.mg "max" = none
  min : X.mg "min" = none
  sum : X.mg "sum" = none
  all : X.mg "all" = none
  any : X.mg "any" = none
  isi : X.mg "isinstance" = none
  int : X.mg "int" = none
  bool : X.mg "bool" = none
  str : X.mg "str" = none
  abs : X.mg "abs" = none
theorem Ctx.blk {X : Cx} (c : Ctx X) {s : Shared} {H : Hp} {sc : Scope} {env : Env} {fp : List Addr} : Ctx (X.blk s H sc env fp) :=
  ⟨c.calm, c.hu, c.nd, c.len, c.tuple, c.list, c.range, c.enumerate, c.zip, c.max, c.min, c.sum, c.all, c.any, c.isi, c.int, c.bool, c.str, c.abs⟩

/-! ### expressions -/
def EvD (X : Cx) (e : Expr) (S : List Sl) (d : PyData) : Prop := ∀ A B H σ, EnvOk A B H σ S → ∀ Q : VK, (∀ v H', Ex H H' → Dv H' v d → Q v H') → WE X e σ H Q
/-- a new list -/
def EvN (X : Cx) (e : Expr) (S : List Sl) (ds : List PyData) : Prop := ∀ A B H σ, EnvOk A B H σ S → ∀ Q : VK, (∀ p xs H', H p = none → Ex H H' → H' p = some (.lst xs) → Dvs H' xs ds → Q (.ref p) H') → WE X e σ H Q
def EvT (X : Cx) (e : Expr) (S : List Sl) (b : Bool) : Prop := ∀ A B H σ, EnvOk A B H σ S → ∀ Q : Bool → Hp → Prop, (∀ H', Ex H H' → Q b H') → WT X e σ H Q
def EvW (X : Cx) (e : Expr) (S : List Sl) (b : Bool) : Prop := ∀ A B H σ, EnvOk A B H σ S → ∀ Q : Bool → Hp → Prop, (∀ H', Ex H H' → Q b H') → WW X e σ H Q
def EvTs (X : Cx) (es : List Expr) (S : List Sl) (b : Bool) : Prop := ∀ A B H σ, EnvOk A B H σ S → ∀ Q : Bool → Hp → Prop, (∀ H', Ex H H' → Q b H') → WTs X es σ H Q
def EvDs (X : Cx) (es : List Expr) (S : List Sl) (ds : List PyData) : Prop := ∀ A B H σ, EnvOk A B H σ S → ∀ Q : List V → Hp → Prop, (∀ vs H', Ex H H' → Dvs H' vs ds → Q vs H') → WA X es σ H Q
def EvO (X : Cx) (e : Option Expr) (S : List Sl) (o : Option Int) : Prop := ∀ A B H σ, EnvOk A B H σ S → ∀ Q : Option Int → Hp → Prop, (∀ H', Ex H H' → Q o H') → WO X e σ H Q
section
variable {X : Cx} {S : List Sl} {a b c e : Expr} {es rest : List Expr} {d da db : PyData} {ds : List PyData} {pos : Pos}
theorem EvN.toD (h : EvN X e S ds) : EvD X e S (.list ds) := fun A B H σ E Q q => h A B H σ E Q fun p xs H' _ e1 h2 h3 => q _ H' e1 (.lst h2 h3)
theorem EvD.is {d' : PyData} (h : EvD X e S d) (e1 : d = d') : EvD X e S d' := e1 ▸ h
theorem EvN.is {ds' : List PyData} (h : EvN X e S ds) (e1 : ds = ds') : EvN X e S ds' := e1 ▸ h
theorem EvT.is {k k' : Bool} (h : EvT X e S k) (e1 : k = k') : EvT X e S k' := e1 ▸ h
theorem ev_int {i : Int} {j : Nat} : EvD X (.Constant (.int i) j pos) S (.int i) := fun A B H σ E Q q => ⟨_, pe_int, q _ H (Ex.refl H) (.int i)⟩
theorem ev_str {i : Str} {j : Nat} : EvD X (.Constant (.str i) j pos) S (.str i) := fun A B H σ E Q q => ⟨_, pe_str, q _ H (Ex.refl H) (.str i)⟩
theorem ev_bool {i : Bool} {j : Nat} : EvD X (.Constant (.bool i) j pos) S (.bool i) := fun A B H σ E Q q => ⟨_, pe_bl, q _ H (Ex.refl H) (.bl i)⟩
theorem ev_none {j : Nat} : EvD X (.Constant .none j pos) S .none := fun A B H σ E Q q => ⟨_, pe_non, q _ H (Ex.refl H) .non⟩
/-- a name's datum, whatever its slot's kind -/
def Sl.says : Sl → PyData → Prop
  | .dat d, d' => d = d'
  | .arg d, d' => d = d'
  | .lst ds, d' => .list ds = d'
  | .any, _ => False
  | .fix _, _ => False
  | .obj _ _, _ => False
  | .pre _, _ => False
theorem EnvOk.says {A B H : Hp} {σ : L2.St} (E : EnvOk A B H σ S) {i : Nat} {s : Sl} (h : S[i]? = some s) (hd : s.says d) : ∃ v, σ[i]? = some (some v) ∧ Dv H v d := by
  cases s with
  | any => exact hd.elim
  | fix u => exact hd.elim
  | obj C fsd => exact hd.elim
  | pre F => exact hd.elim
  | dat d0 =>
    cases (show d0 = d from hd)
    exact E.val h
  | arg d0 =>
    cases (show d0 = d from hd)
    obtain ⟨v, h1, h2⟩ := E.varg h
    exact ⟨v, h1, h2.ex (E.ax.trans E.ex)⟩
  | lst ds =>
    cases (show PyData.list ds = d from hd)
    obtain ⟨_, p, xs, h1, _, h3, h4⟩ := E.vlst h
    exact ⟨_, h1, .lst h3 h4⟩
theorem ev_var (i : Nat) {x : Str} {s : Sl} (h : S[i]? = some s) (hd : s.says d) (hN : X.N[i]? = some x := by rfl) (hv : Vis X.env.scope x := by first | exact Or.inl rfl | exact Or.inr (Or.inl rfl) | exact Or.inr (Or.inr rfl)) (hdb : (x == ("__debug__" : Str)) = false := by decide)
    (hcd : (x == ("__classdict__" : Str)) = false := by decide) : EvD X (.Name x pos) S d := fun A B H σ E Q q => by
  obtain ⟨v, h1, h2⟩ := E.says h hd
  exact ⟨_, pe_var hN hv hdb hcd, v, h1, q v H (Ex.refl H) h2⟩
theorem ev_gint {x : Str} {i : Int} (h : ∃ t, X.mg x = some (.int i t)) (hg : Gl X x := by rfl) (hd : (x == ("__debug__" : Str)) = false := by decide) : EvD X (.Name x pos) S (.int i) := fun A B H σ E Q q => by
  obtain ⟨t, ht⟩ := h
  exact ⟨_, pe_glob (v := .int i) hg ht ⟨t, rfl⟩ hd, q _ H (Ex.refl H) (.int i)⟩
theorem ev_gstr {x : Str} {i : Str} (h : ∃ t, X.mg x = some (.str i t)) (hg : Gl X x := by rfl) (hd : (x == ("__debug__" : Str)) = false := by decide) : EvD X (.Name x pos) S (.str i) := fun A B H σ E Q q => by
  obtain ⟨t, ht⟩ := h
  exact ⟨_, pe_glob (v := .str i) hg ht ⟨t, rfl⟩ hd, q _ H (Ex.refl H) (.str i)⟩
/-- an operator on data -/
def OpD (X : Cx) (f : Value → Value → Sem Value) (da db d : PyData) : Prop := ∃ r : R2, OpR X f r ∧ ∀ H x y (Q : VK), Dv H x da → Dv H y db → (∀ v H', Ex H H' → Dv H' v d → Q v H') → r x y H Q
def OpN (X : Cx) (f : Value → Value → Sem Value) (da db : PyData) (ds : List PyData) : Prop := ∃ r : R2, OpR X f r ∧ ∀ H x y (Q : VK), Dv H x da → Dv H y db → (∀ p xs H', H p = none → Ex H H' → H' p = some (.lst xs) → Dvs H' xs ds → Q (.ref p) H') → r x y H Q
theorem ev_bin {op : Operator} (o : OpD X (binaryOp op) da db d) (ha : EvD X a S da) (hb : EvD X b S db) : EvD X (.BinOp a op b pos) S d := fun A B H σ E Q q => by
  obtain ⟨r, ho, h⟩ := o
  exact ⟨_, pe_op ho we we, ha A B H σ E _ fun x H1 e1 r1 => hb A B H1 σ (E.mono e1) _ fun y H2 e2 r2 => h H2 x y Q (r1.ex e2) r2 fun v H3 e3 r3 => q v H3 ((e1.trans e2).trans e3) r3⟩
theorem ev_binN {op : Operator} (o : OpN X (binaryOp op) da db ds) (ha : EvD X a S da) (hb : EvD X b S db) : EvN X (.BinOp a op b pos) S ds := fun A B H σ E Q q => by
  obtain ⟨r, ho, h⟩ := o
  exact ⟨_, pe_op ho we we, ha A B H σ E _ fun x H1 e1 r1 => hb A B H1 σ (E.mono e1) _ fun y H2 e2 r2 => h H2 x y Q (r1.ex e2) r2 fun p xs H3 n e3 h3 r3 => q p xs H3 ((e1.trans e2).back n) ((e1.trans e2).trans e3) h3 r3⟩
theorem ev_cmp {op : CmpOp} (o : OpD X (compareOp op) da db d) (ha : EvD X a S da) (hb : EvD X b S db) (hm : behindInMarks op b = false := by first | exact nomark _ (by decide) (by decide) | rfl) : EvD X (.Compare a [op] [b] pos) S d := fun A B H σ E Q q => by
  obtain ⟨r, ho, h⟩ := o
  exact ⟨_, pe_cmpR ho we we hm, ha A B H σ E _ fun x H1 e1 r1 => hb A B H1 σ (E.mono e1) _ fun y H2 e2 r2 => h H2 x y Q (r1.ex e2) r2 fun v H3 e3 r3 => q v H3 ((e1.trans e2).trans e3) r3⟩
theorem et_cmp {op : CmpOp} {k : Bool} (o : OpD X (compareOp op) da db (.bool k)) (ha : EvD X a S da) (hb : EvD X b S db) (hm : behindInMarks op b = false := by first | exact nomark _ (by decide) (by decide) | rfl) : EvT X (.Compare a [op] [b] pos) S k := fun A B H σ E Q q => by
  obtain ⟨r, ho, h⟩ := o
  exact ⟨_, pt_cmpR ho we we hm, ha A B H σ E _ fun x H1 e1 r1 => hb A B H1 σ (E.mono e1) _ fun y H2 e2 r2 => h H2 x y _ (r1.ex e2) r2 fun v H3 e3 r3 => ⟨k, r3.toBl, q H3 ((e1.trans e2).trans e3)⟩⟩
/-- int operators -/
theorem od_i {f : Value → Value → Sem Value} {i j : Int} {g : Int → Int → V} {d : PyData} (ho : OpR X f (rI0 g)) (h : ∀ H, Dv H (g i j) d) : OpD X f (.int i) (.int j) d :=
  ⟨_, ho, fun H x y Q rx ry q => ⟨i, j, rx.toInt, ry.toInt, q _ H (Ex.refl H) (h H)⟩⟩
theorem od_ic {f : Value → Value → Sem Value} {C : Int → Int → Prop} {i j : Int} {g : Int → Int → V} {d : PyData} (ho : OpR X f (rI C g)) (hc : C i j) (h : ∀ H, Dv H (g i j) d) : OpD X f (.int i) (.int j) d :=
  ⟨_, ho, fun H x y Q rx ry q => ⟨i, j, rx.toInt, ry.toInt, hc, q _ H (Ex.refl H) (h H)⟩⟩
theorem od_add {i j : Int} : OpD X (binaryOp .Add) (.int i) (.int j) (.int (i + j)) := od_i op_add fun _ => .int _
theorem od_sub {i j : Int} : OpD X (binaryOp .Sub) (.int i) (.int j) (.int (i - j)) := od_i op_sub fun _ => .int _
theorem od_mul {i j : Int} (h : CMul i j) : OpD X (binaryOp .Mult) (.int i) (.int j) (.int (i * j)) := od_ic op_mul h fun _ => .int _
theorem od_mod {i j : Int} (h : 0 < j) : OpD X (binaryOp .Mod) (.int i) (.int j) (.int (i % j)) := od_ic op_mod h fun _ => .int _
theorem od_fdiv {i j : Int} (h : CDiv i j) : OpD X (binaryOp .FloorDiv) (.int i) (.int j) (.int (i / j)) := od_ic op_fdiv h fun _ => .int _
theorem od_pow {i j : Int} (h : CPow i j) : OpD X (binaryOp .Pow) (.int i) (.int j) (.int (i ^ j.toNat)) := od_ic op_pow h fun _ => .int _
theorem od_lt {i j : Int} : OpD X (compareOp .Lt) (.int i) (.int j) (.bool (decide (i < j))) := od_i op_lt fun _ => .bl _
theorem od_le {i j : Int} : OpD X (compareOp .LtE) (.int i) (.int j) (.bool (decide (i ≤ j))) := od_i op_le fun _ => .bl _
theorem od_gt {i j : Int} : OpD X (compareOp .Gt) (.int i) (.int j) (.bool (decide (j < i))) := od_i op_gt fun _ => .bl _
theorem od_ge {i j : Int} : OpD X (compareOp .GtE) (.int i) (.int j) (.bool (decide (j ≤ i))) := od_i op_ge fun _ => .bl _
theorem od_eq (c : Ctx X) (h1 : SeqAt.shaped da = true) (h2 : SeqAt.shaped db = true) : OpD X (compareOp .Eq) da db (.bool (PyData.eqv da db)) :=
  ⟨_, op_eqD (by have := c.hu; omega), fun H x y Q rx ry q => ⟨da, db, rx.dp, ry.dp, h1, h2, q _ H (Ex.refl H) (.bl _)⟩⟩
theorem od_ne (c : Ctx X) (h1 : SeqAt.shaped da = true) (h2 : SeqAt.shaped db = true) : OpD X (compareOp .NotEq) da db (.bool (!PyData.eqv da db)) :=
  ⟨_, op_neD (by have := c.hu; omega), fun H x y Q rx ry q => ⟨da, db, rx.dp, ry.dp, h1, h2, q _ H (Ex.refl H) (.bl _)⟩⟩
def isN : PyData → Bool
  | .none => true
  | _ => false
theorem isN_v {H : Hp} {v : V} (h : Dv H v d) : decide (v = V.non) = isN d := by
  cases h <;> rfl
theorem od_is : OpD X (compareOp .Is) da .none (.bool (isN da)) :=
  ⟨_, op_isN, fun H x y Q rx ry q => ⟨by cases ry; rfl, by rw [isN_v rx]; exact q _ H (Ex.refl H) (.bl _)⟩⟩
/-- arguments -/
theorem eds_nil : EvDs X [] S [] := fun A B H σ E Q q => ⟨_, pa_nil, q [] H (Ex.refl H) .nil⟩
theorem eds_cons (h : EvD X e S d) (hs : EvDs X es S ds) (hst : starEach (e :: es) X.env = (false, eval e X.env) :: starEach es X.env := by rfl) : EvDs X (e :: es) S (d :: ds) := fun A B H σ E Q q =>
  ⟨_, pa_cons we wa hst, h A B H σ E _ fun v H1 e1 r1 => hs A B H1 σ (E.mono e1) _ fun vs H2 e2 r2 => q (v :: vs) H2 (e1.trans e2) (.cons (r1.ex e2) r2)⟩
theorem eds_one (h : EvD X e S d) (hst : starEach [e] X.env = (false, eval e X.env) :: starEach [] X.env := by rfl) : EvDs X [e] S [d] := eds_cons h eds_nil hst
theorem ev_tup {k : Nat} (h : EvDs X es S ds) (hl : ds.length ≤ 100000 := by simp) : EvD X (.Tuple es k pos) S (.tuple ds) := fun A B H σ E Q q =>
  ⟨_, pe_tup wa, h A B H σ E _ fun vs H1 e1 r1 => ⟨sz (by rw [r1.length]; exact hl), fun p hp => q _ _ (e1.trans (Ex.new hp)) (.tup upd_same (r1.ex (Ex.new hp)))⟩⟩
theorem ev_lst (h : EvDs X es S ds) (hl : ds.length ≤ 100000 := by simp) : EvN X (.List es pos) S ds := fun A B H σ E Q q =>
  ⟨_, pe_lst wa, h A B H σ E _ fun vs H1 e1 r1 => ⟨sz (by rw [r1.length]; exact hl), fun p hp => q p vs _ (e1.back hp) (e1.trans (Ex.new hp)) upd_same (r1.ex (Ex.new hp))⟩⟩
/-- items -/
theorem ev_ixT {i : Int} (ha : EvD X a S (.tuple ds)) (hb : EvD X b S (.int i)) (h : atI ds i = some d) (hs : PlainIx b := by intro _ _; rfl) : EvD X (.Subscript a b pos) S d := fun A B H σ E Q q =>
  ⟨_, pe_ix ix_tup we we hs, ha A B H σ E _ fun x H1 e1 r1 => hb A B H1 σ (E.mono e1) _ fun y H2 e2 r2 => by
    obtain ⟨p, xs, rfl, h1, h2⟩ := (r1.ex e2).toTup
    obtain ⟨v, g1, g2⟩ := atI_d h2 h
    exact ⟨p, xs, i, v, rfl, r2.toInt, .inl (.inl h1), g1, q v H2 (e1.trans e2) g2⟩⟩
theorem ev_ixL {i : Int} (ha : EvD X a S (.list ds)) (hb : EvD X b S (.int i)) (h : atI ds i = some d) (hs : PlainIx b := by intro _ _; rfl) : EvD X (.Subscript a b pos) S d := fun A B H σ E Q q =>
  ⟨_, pe_ix ix_list we we hs, ha A B H σ E _ fun x H1 e1 r1 => hb A B H1 σ (E.mono e1) _ fun y H2 e2 r2 => by
    obtain ⟨p, xs, rfl, h1, h2⟩ := (r1.ex e2).toLst
    obtain ⟨v, g1, g2⟩ := atI_d h2 h
    exact ⟨p, xs, i, v, rfl, r2.toInt, .inl (.inl h1), g1, q v H2 (e1.trans e2) g2⟩⟩
/-- slices -/
theorem eo_none : EvO X none S none := fun A B H σ E Q q => ⟨_, po_none, q H (Ex.refl H)⟩
theorem eo_some {i : Int} (h : EvD X e S (.int i)) : EvO X (some e) S (some i) := fun A B H σ E Q q => ⟨_, po_some we, h A B H σ E _ fun v H1 e1 r1 => ⟨i, r1.toInt, q H1 e1⟩⟩
theorem cut_whole {lo hi : Option Int} (h : HT.sIx ds.length 0 lo = 0 ∧ HT.sIx ds.length ds.length hi = ds.length) : cutD ds lo hi = ds := by
  unfold cutD
  rw [h.1, h.2, List.drop_zero, Nat.sub_zero, List.take_length]
theorem ev_slT {lo hi : Option Expr} {ol oh : Option Int} {p2 : Pos} (ha : EvD X a S (.tuple ds)) (hl : EvO X lo S ol) (hh : EvO X hi S oh) : EvD X (.Subscript a (.Slice lo hi none p2) pos) S (.tuple (cutD ds ol oh)) := fun A B H σ E Q q =>
  ⟨_, pe_slice sl_tupA we wo wo, ha A B H σ E _ fun x H1 e1 r1 => hl A B H1 σ (E.mono e1) _ fun H2 e2 => hh A B H2 σ (E.mono (e1.trans e2)) _ fun H3 e3 => by
    obtain ⟨p, xs, rfl, h1, h2⟩ := (r1.ex (e2.trans e3)).toTup
    refine ⟨p, xs, rfl, .inl (.inl h1), fun w => ?_, fun _ t ht => q _ _ (((e1.trans e2).trans e3).trans (Ex.new ht)) (.tup upd_same ((cut_d h2 _ _).ex (Ex.new ht)))⟩
    rw [h2.length] at w
    exact q _ H3 ((e1.trans e2).trans e3) (by rw [cut_whole w]; exact .tup h1 h2)⟩
theorem ev_slL {lo hi : Option Expr} {ol oh : Option Int} {p2 : Pos} (ha : EvD X a S (.list ds)) (hl : EvO X lo S ol) (hh : EvO X hi S oh) : EvN X (.Subscript a (.Slice lo hi none p2) pos) S (cutD ds ol oh) := fun A B H σ E Q q =>
  ⟨_, pe_slice sl_list we wo wo, ha A B H σ E _ fun x H1 e1 r1 => hl A B H1 σ (E.mono e1) _ fun H2 e2 => hh A B H2 σ (E.mono (e1.trans e2)) _ fun H3 e3 => by
    obtain ⟨p, xs, rfl, h1, h2⟩ := (r1.ex (e2.trans e3)).toLst
    exact ⟨p, xs, rfl, .inl (.inl h1), fun t ht => q t _ _ (((e1.trans e2).trans e3).back ht) (((e1.trans e2).trans e3).trans (Ex.new ht)) upd_same ((cut_d h2 _ _).ex (Ex.new ht))⟩⟩
theorem ev_rev {k : Nat} {p1 p2 p3 : Pos} (ha : EvD X a S (.list ds)) : EvN X (.Subscript a (.Slice none none (some (.UnaryOp .USub (.Constant (.int 1) k p1) p2)) p3) pos) S ds.reverse := fun A B H σ E Q q =>
  ⟨_, pe_revL we, ha A B H σ E _ fun x H1 e1 r1 => by
    obtain ⟨p, xs, rfl, h1, h2⟩ := r1.toLst
    exact ⟨p, xs, rfl, .inl (.inl h1), fun t ht => q t _ _ (e1.back ht) (e1.trans (Ex.new ht)) upd_same (h2.rev.ex (Ex.new ht))⟩⟩
theorem ev_neg {i : Int} (ha : EvD X a S (.int i)) : EvD X (.UnaryOp .USub a pos) S (.int (-i)) := fun A B H σ E Q q =>
  ⟨_, pe_un un_neg we, ha A B H σ E _ fun x H1 e1 r1 => ⟨i, r1.toInt, q _ H1 e1 (.int _)⟩⟩
/-- tuples and lists put together -/
theorem od_cat {xs ys : List PyData} (hz : xs.length + ys.length ≤ 100000) : OpD X (binaryOp .Add) (.tuple xs) (.tuple ys) (.tuple (xs ++ ys)) :=
  ⟨_, op_catA, fun H x y Q rx ry q => by
    obtain ⟨p, us, rfl, h1, h2⟩ := rx.toTup
    obtain ⟨p', ws, rfl, h3, h4⟩ := ry.toTup
    refine ⟨p, p', us, ws, rfl, rfl, .inl (.inl h1), .inl (.inl h3), sz (by rw [h2.length, h4.length]; exact hz), fun e => ?_, fun _ e => ?_, fun _ _ t ht => ?_⟩
    · subst e
      cases h2
      exact q _ H (Ex.refl H) (.tup h3 h4)
    · subst e
      cases h4
      exact q _ H (Ex.refl H) (by rw [List.append_nil]; exact .tup h1 h2)
    · exact q _ _ (Ex.new ht) (.tup upd_same ((h2.append h4).ex (Ex.new ht)))⟩
theorem on_cat {xs ys : List PyData} (hz : xs.length + ys.length ≤ 100000) : OpN X (binaryOp .Add) (.list xs) (.list ys) (xs ++ ys) :=
  ⟨_, op_cat, fun H x y Q rx ry q => by
    obtain ⟨p, us, rfl, h1, h2⟩ := rx.toLst
    obtain ⟨p', ws, rfl, h3, h4⟩ := ry.toLst
    exact ⟨p, p', us, ws, rfl, rfl, h1, h3, sz (by rw [h2.length, h4.length]; exact hz), fun t ht => q t _ _ ht (Ex.new ht) upd_same ((h2.append h4).ex (Ex.new ht))⟩⟩
theorem od_rep {xs : List PyData} {k : Int} (h0 : xs ≠ []) (h1 : 2 ≤ k) (h2 : k ≤ 1000) (h3 : xs.length ≤ 1000) : OpD X (binaryOp .Mult) (.tuple xs) (.int k) (.tuple (List.replicate k.toNat xs).flatten) :=
  ⟨_, op_repT, fun H x y Q rx ry q => by
    obtain ⟨p, us, rfl, g1, g2⟩ := rx.toTup
    exact ⟨p, k, us, rfl, ry.toInt, .inl (.inl g1), fun e => h0 (by subst e; cases g2; rfl), h1, h2, by rw [g2.length]; exact h3, fun t ht => q _ _ (Ex.new ht) (.tup upd_same ((g2.rep _).ex (Ex.new ht)))⟩⟩
theorem on_rep {xs : List PyData} {k : Int} (h1 : -(2 ^ 63) ≤ k) (h2 : k < 2 ^ 63) (h3 : xs.length * k.toNat ≤ 100000) : OpN X (binaryOp .Mult) (.list xs) (.int k) (List.replicate k.toNat xs).flatten :=
  ⟨_, op_rep, fun H x y Q rx ry q => by
    obtain ⟨p, us, rfl, g1, g2⟩ := rx.toLst
    exact ⟨p, k, us, rfl, ry.toInt, g1, h1, h2, sz (by rw [g2.length]; exact h3), fun t ht => q t _ _ ht (Ex.new ht) upd_same ((g2.rep _).ex (Ex.new ht))⟩⟩
/-! ### built-ins -/
/-- a call of a built-in function or class -/
def CaD (X : Cx) (f : Value) (ds : List PyData) (d : PyData) : Prop := ∃ r, CallR X f r ∧ ∀ H vs (Q : VK), Dvs H vs ds → (∀ v H', Ex H H' → Dv H' v d → Q v H') → r vs H Q
def CaN (X : Cx) (f : Value) (ds : List PyData) (xs : List PyData) : Prop := ∃ r, CallR X f r ∧ ∀ H vs (Q : VK), Dvs H vs ds → (∀ p us H', H p = none → Ex H H' → H' p = some (.lst us) → Dvs H' us xs → Q (.ref p) H') → r vs H Q
theorem ev_cb {x : Str} {id : String} {p : Pos} (o : CaD X (.builtin id) ds d) (hm : X.mg x = none) (hv : bootBuiltins x = some (.builtin id)) (ha : EvDs X (e :: es) S ds) (hg : Gl X x := by rfl) (hn : x ≠ "__name__" := by decide) (hdb : (x == ("__debug__" : Str)) = false := by decide)
    (he : starEach (e :: es) X.env = (false, eval e X.env) :: starEach es X.env := by rfl) (hpl : (backTo pos (starEach es X.env)).any (·.1) = false := by rfl) : EvD X (.Call (.Name x p) (e :: es) [] pos) S d := fun A B H σ E Q q => by
  obtain ⟨r, ho, h⟩ := o
  exact ⟨_, pe_callB ho hg hm hv wa hn hdb he hpl, ha A B H σ E _ fun vs H1 e1 r1 => h H1 vs Q r1 fun v H2 e2 r2 => q v H2 (e1.trans e2) r2⟩
theorem ev_ct {x : Str} {id : String} {p : Pos} (o : CaD X (.type id) ds d) (hm : X.mg x = none) (hv : bootBuiltins x = some (.type id)) (ha : EvDs X (e :: es) S ds) (hg : Gl X x := by rfl) (hn : x ≠ "__name__" := by decide) (hdb : (x == ("__debug__" : Str)) = false := by decide)
    (he : starEach (e :: es) X.env = (false, eval e X.env) :: starEach es X.env := by rfl) (hpl : (backTo pos (starEach es X.env)).any (·.1) = false := by rfl) : EvD X (.Call (.Name x p) (e :: es) [] pos) S d := fun A B H σ E Q q => by
  obtain ⟨r, ho, h⟩ := o
  exact ⟨_, pe_callTy ho hg hm hv wa hn hdb he hpl, ha A B H σ E _ fun vs H1 e1 r1 => h H1 vs Q r1 fun v H2 e2 r2 => q v H2 (e1.trans e2) r2⟩
theorem ev_ctN {x : Str} {id : String} {p : Pos} {xs : List PyData} (o : CaN X (.type id) ds xs) (hm : X.mg x = none) (hv : bootBuiltins x = some (.type id)) (ha : EvDs X (e :: es) S ds) (hg : Gl X x := by rfl) (hn : x ≠ "__name__" := by decide) (hdb : (x == ("__debug__" : Str)) = false := by decide)
    (he : starEach (e :: es) X.env = (false, eval e X.env) :: starEach es X.env := by rfl) (hpl : (backTo pos (starEach es X.env)).any (·.1) = false := by rfl) : EvN X (.Call (.Name x p) (e :: es) [] pos) S xs := fun A B H σ E Q q => by
  obtain ⟨r, ho, h⟩ := o
  exact ⟨_, pe_callTy ho hg hm hv wa hn hdb he hpl, ha A B H σ E _ fun vs H1 e1 r1 => h H1 vs Q r1 fun t us H2 n e2 h2 r2 => q t us H2 (e1.back n) (e1.trans e2) h2 r2⟩
theorem ca_lenT {xs : List PyData} : CaD X (.builtin "len") [.tuple xs] (.int xs.length) := ⟨_, call_len_seq, fun H vs Q r q => by
  obtain ⟨v, rfl, r1⟩ := r.one
  obtain ⟨p, us, rfl, h1, h2⟩ := r1.toTup
  exact ⟨p, us, rfl, .inr (.inl (.inl h1)), q _ H (Ex.refl H) (by rw [h2.length]; exact .int _)⟩⟩
theorem ca_lenL {xs : List PyData} : CaD X (.builtin "len") [.list xs] (.int xs.length) := ⟨_, call_len_seq, fun H vs Q r q => by
  obtain ⟨v, rfl, r1⟩ := r.one
  obtain ⟨p, us, rfl, h1, h2⟩ := r1.toLst
  exact ⟨p, us, rfl, .inl (.inl (.inl h1)), q _ H (Ex.refl H) (by rw [h2.length]; exact .int _)⟩⟩
theorem ca_tupT {xs : List PyData} : CaD X (.type "tuple") [.tuple xs] (.tuple xs) := ⟨_, call_tuple_of, fun H vs Q r q => by
  obtain ⟨v, rfl, r1⟩ := r.one
  obtain ⟨p, us, rfl, h1, h2⟩ := r1.toTup
  exact ⟨p, us, rfl, .inr ⟨.inl (.inl h1), q _ H (Ex.refl H) (.tup h1 h2)⟩⟩⟩
theorem ca_tupL {xs : List PyData} : CaD X (.type "tuple") [.list xs] (.tuple xs) := ⟨_, call_tuple_of, fun H vs Q r q => by
  obtain ⟨v, rfl, r1⟩ := r.one
  obtain ⟨p, us, rfl, h1, h2⟩ := r1.toLst
  exact ⟨p, us, rfl, .inl ⟨.inl (.inl h1), fun t ht => q _ _ (Ex.new ht) (.tup upd_same (h2.ex (Ex.new ht)))⟩⟩⟩
theorem ca_lstT {xs : List PyData} : CaN X (.type "list") [.tuple xs] xs := ⟨_, call_list_of, fun H vs Q r q => by
  obtain ⟨v, rfl, r1⟩ := r.one
  obtain ⟨p, us, rfl, h1, h2⟩ := r1.toTup
  exact ⟨p, us, rfl, .inr (.inl (.inl h1)), fun t ht => q t us _ ht (Ex.new ht) upd_same (h2.ex (Ex.new ht))⟩⟩
theorem ca_lstL {xs : List PyData} : CaN X (.type "list") [.list xs] xs := ⟨_, call_list_of, fun H vs Q r q => by
  obtain ⟨v, rfl, r1⟩ := r.one
  obtain ⟨p, us, rfl, h1, h2⟩ := r1.toLst
  exact ⟨p, us, rfl, .inl (.inl (.inl h1)), fun t ht => q t us _ ht (Ex.new ht) upd_same (h2.ex (Ex.new ht))⟩⟩
theorem ca_sumT (c : Ctx X) {ns : List Int} : CaD X (.builtin "sum") [.tuple (ns.map .int)] (.int ns.sum) := ⟨_, cr_sumT c.calm, fun H vs Q r q => by
  obtain ⟨v, rfl, r1⟩ := r.one
  obtain ⟨p, us, rfl, h1, h2⟩ := r1.toTup
  exact ⟨p, ns, rfl, .inl (.inl (by rw [h1, h2.ints])), q _ H (Ex.refl H) (.int _)⟩⟩
theorem ca_max (c : Ctx X) {ns : List Int} {m : Int} (hm : m ∈ ns) (hl : ∀ y ∈ ns, y ≤ m) : CaD X (.builtin "max") [.list (ns.map .int)] (.int m) := ⟨_, cr_max c.calm, fun H vs Q r q => by
  obtain ⟨v, rfl, r1⟩ := r.one
  obtain ⟨p, us, rfl, h1, h2⟩ := r1.toLst
  refine ⟨p, ns, rfl, .inl (.inl (by rw [h1, h2.ints])), List.length_pos_of_mem hm, fun m' h3 h4 => ?_⟩
  have e : m' = m := Int.le_antisymm (hl m' h3) (h4 m hm)
  rw [e]
  exact q _ H (Ex.refl H) (.int _)⟩
theorem ca_min (c : Ctx X) {ns : List Int} {m : Int} (hm : m ∈ ns) (hl : ∀ y ∈ ns, m ≤ y) : CaD X (.builtin "min") [.list (ns.map .int)] (.int m) := ⟨_, cr_min c.calm, fun H vs Q r q => by
  obtain ⟨v, rfl, r1⟩ := r.one
  obtain ⟨p, us, rfl, h1, h2⟩ := r1.toLst
  refine ⟨p, ns, rfl, .inl (.inl (by rw [h1, h2.ints])), List.length_pos_of_mem hm, fun m' h3 h4 => ?_⟩
  have e : m' = m := Int.le_antisymm (h4 m hm) (hl m' h3)
  rw [e]
  exact q _ H (Ex.refl H) (.int _)⟩
theorem ca_all (c : Ctx X) {bs : List Bool} : CaD X (.builtin "all") [.list (bs.map .bool)] (.bool (bs.all id)) := ⟨_, cr_all c.calm, fun H vs Q r q => by
  obtain ⟨v, rfl, r1⟩ := r.one
  obtain ⟨p, us, rfl, h1, h2⟩ := r1.toLst
  exact ⟨p, bs, rfl, .inl (.inl (by rw [h1, h2.bools])), q _ H (Ex.refl H) (.bl _)⟩⟩
theorem ca_any (c : Ctx X) {bs : List Bool} : CaD X (.builtin "any") [.list (bs.map .bool)] (.bool (bs.any id)) := ⟨_, cr_any c.calm, fun H vs Q r q => by
  obtain ⟨v, rfl, r1⟩ := r.one
  obtain ⟨p, us, rfl, h1, h2⟩ := r1.toLst
  exact ⟨p, bs, rfl, .inl (.inl (by rw [h1, h2.bools])), q _ H (Ex.refl H) (.bl _)⟩⟩
theorem ca_int {i : Int} : CaD X (.type "int") [.int i] (.int i) := ⟨_, call_int1, fun H vs Q r q => by
  obtain ⟨v, rfl, r1⟩ := r.one
  rw [r1.toInt]
  exact .inl ⟨i, rfl, q _ H (Ex.refl H) (.int _)⟩⟩
theorem ca_abs {i : Int} : CaD X (.builtin "abs") [.int i] (.int (if i < 0 then -i else i)) := ⟨_, call_abs, fun H vs Q r q => by
  obtain ⟨v, rfl, r1⟩ := r.one
  rw [r1.toInt]
  exact ⟨i, rfl, q _ H (Ex.refl H) (.int _)⟩⟩
/-! ### isinstance -/
def tyN : PyData → String
  | .none => "NoneType"
  | .bool _ => "bool"
  | .int _ => "int"
  | .str _ => "str"
  | .list _ => "list"
  | .tuple _ => "tuple"
  | .dict _ => "dict"
theorem tyX_of {K : PySem.W.Frag} {H : Hp} {v : V} {d : PyData} (h : Dv H v d) : TyX K H v (.type (tyN d)) := by
  cases h with
  | non => exact .base .non
  | bl b => exact .base (.bl b)
  | int i => exact .base (.int i)
  | str x => exact .base (.str x)
  | lst h _ => exact .base (.lst h)
  | tup h _ => exact .base (.tup h)
theorem ev_isi {T : Str} {t : String} {k : Bool} {p p2 : Pos} (c : Ctx X) (ha : EvD X a S da) (hm : X.mg T = none) (hv : bootBuiltins T = some (.type t)) (hk : kitB (tyN da) t = some k) (hg : Gl X "isinstance" := by rfl) (hg2 : Gl X T := by rfl) (hn : T ≠ "__name__" := by decide) (hdb : (T == ("__debug__" : Str)) = false := by decide)
    (he : starEach [a, .Name T p2] X.env = (false, eval a X.env) :: starEach [.Name T p2] X.env := by rfl) (he2 : starEach [.Name T p2] X.env = (false, eval (.Name T p2) X.env) :: starEach [] X.env := by rfl) (hpl : (backTo pos (starEach [.Name T p2] X.env)).any (·.1) = false := by rfl) :
    EvD X (.Call (.Name "isinstance" p) [a, .Name T p2] [] pos) S (.bool k) := fun A B H σ E Q q =>
  ⟨_, pe_callB call_isi hg c.isi (by decide +kernel) (pa_cons we (pa_cons (pe_bltn (v := .ty t) hg2 hm hv rfl hn hdb) pa_nil he2) he) (by decide) (by decide) he hpl,
    ha A B H σ E _ fun x H1 e1 r1 => ⟨x, .ty t, _, _, k, rfl, .ty t, tyX_of r1, kit_ty hk, q _ H1 e1 (.bl _)⟩⟩
theorem ev_isi2 {T U : Str} {t u : String} {k1 k2 : Bool} {p p2 p3 p4 : Pos} {kk : Nat} (c : Ctx X) (ha : EvD X a S da) (hm : X.mg T = none) (hv : bootBuiltins T = some (.type t)) (hm2 : X.mg U = none) (hv2 : bootBuiltins U = some (.type u)) (hk : kitB (tyN da) t = some k1) (hk2 : kitB (tyN da) u = some k2)
    (hg : Gl X "isinstance" := by rfl) (hg2 : Gl X T := by rfl) (hg3 : Gl X U := by rfl) (hn : T ≠ "__name__" := by decide) (hdb : (T == ("__debug__" : Str)) = false := by decide) (hn2 : U ≠ "__name__" := by decide) (hdb2 : (U == ("__debug__" : Str)) = false := by decide)
    (he : starEach [a, .Tuple [.Name T p2, .Name U p3] kk p4] X.env = (false, eval a X.env) :: starEach [.Tuple [.Name T p2, .Name U p3] kk p4] X.env := by rfl) (he2 : starEach [.Tuple [.Name T p2, .Name U p3] kk p4] X.env = (false, eval (.Tuple [.Name T p2, .Name U p3] kk p4) X.env) :: starEach [] X.env := by rfl) (hpl : (backTo pos (starEach [.Tuple [.Name T p2, .Name U p3] kk p4] X.env)).any (·.1) = false := by rfl)
    (he3 : starEach [.Name T p2, .Name U p3] X.env = (false, eval (.Name T p2) X.env) :: starEach [.Name U p3] X.env := by rfl) (he4 : starEach [.Name U p3] X.env = (false, eval (.Name U p3) X.env) :: starEach [] X.env := by rfl) :
    EvD X (.Call (.Name "isinstance" p) [a, .Tuple [.Name T p2, .Name U p3] kk p4] [] pos) S (.bool (k1 || k2)) := fun A B H σ E Q q =>
  ⟨_, pe_callB call_isiT hg c.isi (by decide +kernel) (pa_cons we (pa_cons (pe_tup (pa_cons (pe_bltn (v := .ty t) hg2 hm hv rfl hn hdb) (pa_cons (pe_bltn (v := .ty u) hg3 hm2 hv2 rfl hn2 hdb2) pa_nil he4) he3)) pa_nil he2) he) (by decide) (by decide) he hpl,
    ha A B H σ E _ fun x H1 e1 r1 => ⟨by show 2 ≤ sizeLine; decide, fun tp ht => ⟨x, tp, [.ty t, .ty u], _, [.type t, .type u], k1 || k2, rfl, upd_same, .cons (.ty t) (.cons (.ty u) .nil), tyX_of (r1.ex (Ex.new ht)),
      kitAny_cons (kit_ty hk) (fun e => kitAny_cons (kit_ty hk2) (fun e2 => by rw [e, e2]; rfl) fun e2 => by rw [e2, Bool.or_true]) (fun e => by rw [e, Bool.true_or]), q _ _ (e1.trans (Ex.new ht)) (.bl _)⟩⟩⟩
/-! ### truth -/
theorem et_val {k : Bool} (h : EvD X e S (.bool k)) (he : ∀ whole, isTrue e X.env whole = (do let v ← whole; standAt e.pos; holding [v] (truthy v)) := by intro _; rfl) : EvT X e S k := fun A B H σ E Q q =>
  ⟨_, pt_val we he, h A B H σ E _ fun v H1 e1 r1 => ⟨k, r1.toBl, q H1 e1⟩⟩
theorem et_not {k : Bool} (h : EvT X a S k) : EvT X (.UnaryOp .Not a pos) S (!k) := fun A B H σ E Q q => ⟨_, pt_not wt, h A B H σ E _ q⟩
theorem et_w {k : Bool} (h : EvW X e S k) : EvT X e S k := fun A B H σ E Q q => ⟨_, ww.pt, h A B H σ E Q q⟩
theorem ew_and1 {k : Bool} (h : EvT X a S k) : EvW X (.BoolOp .And [a] pos) S k := fun A B H σ E Q q => ⟨_, pw_and1 wt, h A B H σ E Q q⟩
theorem ew_or1 {k : Bool} (h : EvT X a S k) : EvW X (.BoolOp .Or [a] pos) S k := fun A B H σ E Q q => ⟨_, pw_or1 wt, h A B H σ E Q q⟩
theorem ew_and {k k' : Bool} (h : EvT X a S k) (hr : k = true → EvW X (.BoolOp .And (b :: rest) pos) S k') : EvW X (.BoolOp .And (a :: b :: rest) pos) S (k && k') := fun A B H σ E Q q => ⟨_, pw_and wt ww, h A B H σ E _ fun H1 e1 => by
  cases k with
  | false => exact q H1 e1
  | true => exact hr rfl A B H1 σ (E.mono e1) Q fun H2 e2 => q H2 (e1.trans e2)⟩
theorem ew_or {k k' : Bool} (h : EvT X a S k) (hr : k = false → EvW X (.BoolOp .Or (b :: rest) pos) S k') : EvW X (.BoolOp .Or (a :: b :: rest) pos) S (k || k') := fun A B H σ E Q q => ⟨_, pw_or wt ww, h A B H σ E _ fun H1 e1 => by
  cases k with
  | true => exact q H1 e1
  | false => exact hr rfl A B H1 σ (E.mono e1) Q fun H2 e2 => q H2 (e1.trans e2)⟩
theorem ev_one {op : PySem.BoolOp} (h : EvD X a S d) : EvD X (.BoolOp op [a] pos) S d := fun A B H σ E Q q => ⟨_, pe_one we, h A B H σ E Q q⟩
theorem ev_and {k k' : Bool} (h : EvD X a S (.bool k)) (hr : k = true → EvD X (.BoolOp .And (b :: rest) pos) S (.bool k')) : EvD X (.BoolOp .And (a :: b :: rest) pos) S (.bool (k && k')) := fun A B H σ E Q q => ⟨_, pe_and we we, h A B H σ E _ fun v H1 e1 r1 => ⟨k, r1.toBl, by
  cases k with
  | false => exact q _ H1 e1 (.bl _)
  | true => exact hr rfl A B H1 σ (E.mono e1) Q fun v H2 e2 r2 => q v H2 (e1.trans e2) r2⟩⟩
theorem ev_or {k k' : Bool} (h : EvD X a S (.bool k)) (hr : k = false → EvD X (.BoolOp .Or (b :: rest) pos) S (.bool k')) : EvD X (.BoolOp .Or (a :: b :: rest) pos) S (.bool (k || k')) := fun A B H σ E Q q => ⟨_, pe_or we we, h A B H σ E _ fun v H1 e1 r1 => ⟨k, r1.toBl, by
  cases k with
  | true => exact q _ H1 e1 (.bl _)
  | false => exact hr rfl A B H1 σ (E.mono e1) Q fun v H2 e2 r2 => q v H2 (e1.trans e2) r2⟩⟩
theorem ev_not {k : Bool} (h : EvD X a S (.bool k)) : EvD X (.UnaryOp .Not a pos) S (.bool (!k)) := fun A B H σ E Q q => ⟨_, pe_not we, h A B H σ E _ fun v H1 e1 r1 => ⟨k, r1.toBl, q _ H1 e1 (.bl _)⟩⟩
theorem ev_ife {k : Bool} (h : EvT X c S k) (h1 : k = true → EvD X a S d) (h2 : k = false → EvD X b S d) : EvD X (.IfExp c a b pos) S d := fun A B H σ E Q q => ⟨_, pe_ifExp wt we we, h A B H σ E _ fun H1 e1 => by
  cases k with
  | true => exact h1 rfl A B H1 σ (E.mono e1) Q fun v H2 e2 r2 => q v H2 (e1.trans e2) r2
  | false => exact h2 rfl A B H1 σ (E.mono e1) Q fun v H2 e2 r2 => q v H2 (e1.trans e2) r2⟩
/-- i ≤ j ≤ k -/
theorem ev_chain {i j k : Int} (ha : EvD X a S (.int i)) (hb : EvD X b S (.int j)) (hc : EvD X c S (.int k)) (hm : lastMarks [.LtE, .LtE] [b, c] = false := by with_unfolding_all rfl) :
    EvD X (.Compare a [.LtE, .LtE] [b, c] pos) S (.bool (decide (i ≤ j) && decide (j ≤ k))) := fun A B H σ E Q q =>
  ⟨_, pe_chain op_le op_le we we we hm, ha A B H σ E _ fun x H1 e1 r1 => hb A B H1 σ (E.mono e1) _ fun y H2 e2 r2 => ⟨i, j, r1.toInt, r2.toInt, _, rfl, by
    by_cases h : i ≤ j
    · rw [decide_eq_true h] at q ⊢
      exact hc A B H2 σ (E.mono (e1.trans e2)) _ fun z H3 e3 r3 => ⟨j, k, r2.toInt, r3.toInt, q _ H3 ((e1.trans e2).trans e3) (.bl _)⟩
    · rw [decide_eq_false h] at q ⊢
      exact q _ H2 (e1.trans e2) (.bl _)⟩⟩
theorem et_chain {i j k : Int} (ha : EvD X a S (.int i)) (hb : EvD X b S (.int j)) (hc : EvD X c S (.int k)) (hm : lastMarks [.LtE, .LtE] [b, c] = false := by with_unfolding_all rfl) :
    EvT X (.Compare a [.LtE, .LtE] [b, c] pos) S (decide (i ≤ j) && decide (j ≤ k)) := fun A B H σ E Q q =>
  ⟨_, pt_chain op_le op_le we we we hm, ha A B H σ E _ fun x H1 e1 r1 => hb A B H1 σ (E.mono e1) _ fun y H2 e2 r2 => ⟨i, j, r1.toInt, r2.toInt, _, rfl, by
    by_cases h : i ≤ j
    · rw [decide_eq_true h] at q ⊢
      exact hc A B H2 σ (E.mono (e1.trans e2)) _ fun z H3 e3 r3 => ⟨j, k, r2.toInt, r3.toInt, _, rfl, q H3 ((e1.trans e2).trans e3)⟩
    · rw [decide_eq_false h] at q ⊢
      exact ⟨_, rfl, q H2 (e1.trans e2)⟩⟩⟩
theorem ets_nil : EvTs X [] S true := fun A B H σ E Q q => ⟨_, pts_nil, q H (Ex.refl H)⟩
theorem ets_one {k : Bool} (h : EvT X c S k) : EvTs X [c] S k := fun A B H σ E Q q => ⟨_, pts_one wt, h A B H σ E Q q⟩
end
end Ow
end

section
set_option linter.all false
set_option maxRecDepth 100000
set_option maxHeartbeats 4000000
set_option autoImplicit false
/-! Judgements over data: calls, targets, iterators, comprehensions, statements, defs. -/
namespace Ow
open PySem L2 OwL
open PyProof.Rows (envOfC)

/-! ### calls -/
def spF {α : Type} (enc : α → List PyData) (pre : α → Prop) (out : α → PyData) : Sp := fun vs H Q _ => ∃ a, Dvs H vs (enc a) ∧ pre a ∧ ∀ v H', Ex H H' → Dv H' v (out a) → Q v H'
def spN {α : Type} (enc : α → List PyData) (pre : α → Prop) (out : α → List PyData) : Sp := fun vs H Q _ => ∃ a, Dvs H vs (enc a) ∧ pre a ∧ ∀ p xs H', H p = none → Ex H H' → H' p = some (.lst xs) → Dvs H' xs (out a) → Q (.ref p) H'
structure CalF (P : Program) (w : World) (K : PySem.W.Frag) (mg : Str → Option Value) (base : Heap) (x : Str) (k : Nat) (ps : List Str) (sp : Sp) : Prop where
  ex : ∃ f fd, mg x = some (.ref f) ∧ PySem.W.keepIn K (.ref f) = true ∧ Binds K fd ps [] ∧ FnOk P w K mg base CX0 k f fd ps sp
section
variable {X : Cx} {S : List Sl} {a b c e : Expr} {es rest : List Expr} {d da db : PyData} {ds : List PyData} {pos p : Pos} {x : Str} {k j : Nat} {ps : List Str} {α : Type} {enc : α → List PyData} {pre : α → Prop}
theorem ev_call {out : α → PyData} (F : CalF X.prog X.w X.K X.mg X.base x k ps (spF enc pre out)) (hr : Room j X.A) (z : α) (hp : pre z) (ha : EvDs X (e :: es) S (enc z)) (hk : k ≤ j := by decide) (hd : out z = d := by rfl) (hg : Gl X x := by rfl) (hdb : (x == ("__debug__" : Str)) = false := by decide)
    (he : starEach (e :: es) X.env = (false, eval e X.env) :: starEach es X.env := by rfl) (hpl : (backTo pos (starEach es X.env)).any (·.1) = false := by rfl) : EvD X (.Call (.Name x p) (e :: es) [] pos) S d := fun A B H σ E Q q => by
  subst hd
  obtain ⟨f, fd, h1, h2, h3, h4⟩ := F.ex
  refine ⟨_, pe_call h4 (hr.mono hk) hg h1 h2 h3 .nil pass0 wa hdb he hpl, ha A B H σ E _ fun vs H1 e1 r1 => ?_⟩
  exact ⟨z, by rw [List.append_nil]; exact r1, hp, fun v H2 e2 r2 => q v H2 (e1.trans e2) r2⟩
theorem ev_callN {out : α → List PyData} (F : CalF X.prog X.w X.K X.mg X.base x k ps (spN enc pre out)) (hr : Room j X.A) (z : α) (hp : pre z) (ha : EvDs X (e :: es) S (enc z)) (hk : k ≤ j := by decide) (hd : out z = ds := by rfl) (hg : Gl X x := by rfl) (hdb : (x == ("__debug__" : Str)) = false := by decide)
    (he : starEach (e :: es) X.env = (false, eval e X.env) :: starEach es X.env := by rfl) (hpl : (backTo pos (starEach es X.env)).any (·.1) = false := by rfl) : EvN X (.Call (.Name x p) (e :: es) [] pos) S ds := fun A B H σ E Q q => by
  subst hd
  obtain ⟨f, fd, h1, h2, h3, h4⟩ := F.ex
  refine ⟨_, pe_call h4 (hr.mono hk) hg h1 h2 h3 .nil pass0 wa hdb he hpl, ha A B H σ E _ fun vs H1 e1 r1 => ?_⟩
  exact ⟨z, by rw [List.append_nil]; exact r1, hp, fun t us H2 n e2 h2 r2 => q t us H2 (e1.back n) (e1.trans e2) h2 r2⟩

/-- a datum of which a word is known -/
def EvR (X : Cx) (e : Expr) (S : List Sl) (R : PyData → Prop) : Prop := ∀ A B H σ, EnvOk A B H σ S → ∀ Q : VK, (∀ d v H', R d → Ex H H' → Dv H' v d → Q v H') → WE X e σ H Q
def spR {α : Type} (enc : α → List PyData) (pre : α → Prop) (out : α → PyData → Prop) : Sp := fun vs H Q _ => ∃ a, Dvs H vs (enc a) ∧ pre a ∧ ∀ d v H', out a d → Ex H H' → Dv H' v d → Q v H'
theorem ev_callR {out : α → PyData → Prop} {R : PyData → Prop} (F : CalF X.prog X.w X.K X.mg X.base x k ps (spR enc pre out)) (hr : Room j X.A) (z : α) (hp : pre z) (ha : EvDs X (e :: es) S (enc z)) (hk : k ≤ j := by decide) (hd : out z = R := by rfl) (hg : Gl X x := by rfl) (hdb : (x == ("__debug__" : Str)) = false := by decide)
    (he : starEach (e :: es) X.env = (false, eval e X.env) :: starEach es X.env := by rfl) (hpl : (backTo pos (starEach es X.env)).any (·.1) = false := by rfl) : EvR X (.Call (.Name x p) (e :: es) [] pos) S R := fun A B H σ E Q q => by
  subst hd
  obtain ⟨f, fd, h1, h2, h3, h4⟩ := F.ex
  refine ⟨_, pe_call h4 (hr.mono hk) hg h1 h2 h3 .nil pass0 wa hdb he hpl, ha A B H σ E _ fun vs H1 e1 r1 => ?_⟩
  exact ⟨z, by rw [List.append_nil]; exact r1, hp, fun d v H2 o e2 r2 => q d v H2 o (e1.trans e2) r2⟩
/-! ### items, targets -/
inductive Itm where
  | one (s : Sl)
  | tup (ss : List Sl)
def SlIt (A H : Hp) (v : V) : Sl → Prop
  | .dat d => imm d = true ∧ Dv H v d
  | .arg d => Dv A v d
  | _ => False
inductive SlIts (A H : Hp) : List V → List Sl → Prop
  | nil : SlIts A H [] []
  | cons {v : V} {vs : List V} {s : Sl} {ss : List Sl} : SlIt A H v s → SlIts A H vs ss → SlIts A H (v :: vs) (s :: ss)
def ItmV (A H : Hp) (v : V) : Itm → Prop
  | .one s => SlIt A H v s
  | .tup ss => ∃ a xs, v = .ref a ∧ H a = some (.tup xs) ∧ SlIts A H xs ss
def dats (ds : List PyData) : List Itm := ds.map fun d => .one (.dat d)
theorem EnvOk.putIt {A B H : Hp} {σ : L2.St} (E : EnvOk A B H σ S) {i : Nat} {v : V} {s : Sl} (h : SlIt A H v s) : EnvOk A B H (σ.set i (some v)) (S.set i s) := by
  cases s with
  | any => exact False.elim h
  | fix u => exact False.elim h
  | obj C0 fsd0 => exact False.elim h
  | pre F0 => exact False.elim h
  | dat d => exact E.setDat h.1 h.2
  | arg d => exact E.setArg h
  | lst ds => exact False.elim h
theorem SlIts.of_dvs {A H : Hp} : ∀ {ds : List PyData} {vs : List V}, imms ds = true → Dvs H vs ds → SlIts A H vs (ds.map Sl.dat)
  | _, _, _, .nil => .nil
  | _, _, i, .cons h hs => .cons ⟨(imms_cons.mp i).1, h⟩ (SlIts.of_dvs (imms_cons.mp i).2 hs)
theorem wipe_at {σ : L2.St} : ∀ (vs : List Nat) (i : Nat), (wipe σ vs)[i]? = if i ∈ vs then σ[i]?.map (fun _ => none) else σ[i]?
  | [], i => by rw [if_neg (by simp)]; rfl
  | v :: vs, i => by
    have ih := wipe_at (σ := σ) vs i
    have e : wipe σ (v :: vs) = (wipe σ vs).set v none := rfl
    rw [e, List.getElem?_set, wipe_length]
    by_cases hv : v = i
    · subst hv
      rw [if_pos rfl, if_pos List.mem_cons_self]
      by_cases hl : v < σ.length
      · rw [if_pos hl, List.getElem?_eq_getElem hl]
        rfl
      · rw [if_neg hl, List.getElem?_eq_none (by omega)]
        rfl
    · rw [if_neg hv, ih]
      by_cases hi : i ∈ vs
      · rw [if_pos hi, if_pos (List.mem_cons_of_mem _ hi)]
      · rw [if_neg hi, if_neg (by simp only [List.mem_cons, not_or]; exact ⟨fun z => hv z.symm, hi⟩)]
theorem wipe_idem {σ : L2.St} {vs : List Nat} : wipe (wipe σ vs) vs = wipe σ vs := by
  apply List.ext_getElem?
  intro i
  rw [wipe_at, wipe_at]
  by_cases h : i ∈ vs
  · rw [if_pos h, if_pos h, Option.map_map]
    rfl
  · rw [if_neg h, if_neg h]
/-- the target takes an item: the slots behind -/
def GTo (X : Cx) (tg : Expr) (it : Itm) (js : List Nat) (S S' : List Sl) : Prop := ∀ A B H σ v, EnvOk A B H σ S → ItmV A H v it → ∀ Q : L2.St → Hp → Prop,
  (∀ σ', EnvOk A B H σ' S' → (∀ vs : List Nat, (∀ j ∈ js, j ∈ vs) → wipe σ' vs = wipe σ vs) → Q σ' H) → WG X tg v σ H Q
theorem wipe_set {σ : L2.St} {i : Nat} {o : Option V} : ∀ {vs : List Nat}, i ∈ vs → wipe (σ.set i o) vs = wipe σ vs
  | [], h => by simp at h
  | v :: vs, h => by
    unfold wipe
    by_cases hi : i ∈ vs
    · rw [wipe_set hi]
    · have e : i = v := (List.mem_cons.mp h).resolve_right hi
      subst e
      have out : ∀ (σ : L2.St) (o : Option V) (ws : List Nat), i ∉ ws → (wipe (σ.set i o) ws) = (wipe σ ws).set i o := by
        intro σ o ws
        induction ws with
        | nil => intro _; rfl
        | cons w ws ih =>
          intro hn
          unfold wipe
          rw [ih fun z => hn (List.mem_cons_of_mem _ z), List.set_comm _ _ fun z => hn (by rw [z]; exact List.mem_cons_self)]
      rw [out σ o vs hi, List.set_set]
theorem g_name (i : Nat) {s : Sl} (hN : X.N.Nodup) (hi : X.N[i]? = some x := by rfl) (hx : Loc X.env.scope x := by first | exact Or.inl rfl | exact Or.inr rfl) (hf : X.fn x = true ∨ X.env.scope.names.lookup x = some .local := by first | exact .inl rfl | exact .inr rfl) :
    GTo X (.Name x pos) (.one s) [i] S (S.set i s) := fun A B H σ v E iv Q q =>
  ⟨_, pg_name hN hi hx hf, q _ (E.putIt iv) fun vs hv => wipe_set (hv i (by simp))⟩
theorem g_tup2 (i j : Nat) {x y : Str} {s t : Sl} {p1 p2 : Pos} {kk : Nat} (c : Ctx X) (hi : X.N[i]? = some x := by rfl) (hx : Loc X.env.scope x := by first | exact Or.inl rfl | exact Or.inr rfl) (hf : X.fn x = true ∨ X.env.scope.names.lookup x = some .local := by first | exact .inl rfl | exact .inr rfl)
    (hj : X.N[j]? = some y := by rfl) (hy : Loc X.env.scope y := by first | exact Or.inl rfl | exact Or.inr rfl) (hf2 : X.fn y = true ∨ X.env.scope.names.lookup y = some .local := by first | exact .inl rfl | exact .inr rfl)
    (h1 : (assignEach [.Name x p1, .Name y p2] X.env).map (·.2) = assign (.Name x p1) X.env :: (assignEach [.Name y p2] X.env).map (·.2) := by rfl) (h2 : (assignEach [.Name y p2] X.env).map (·.2) = assign (.Name y p2) X.env :: (assignEach [] X.env).map (·.2) := by rfl)
    (hn : (assignEach [.Name x p1, .Name y p2] X.env).length = 2 := by rfl) (hst : (assignEach [.Name x p1, .Name y p2] X.env).findIdx? (·.1) = none := by rfl) :
    GTo X (.Tuple [.Name x p1, .Name y p2] kk pos) (.tup [s, t]) [i, j] S ((S.set i s).set j t) := fun A B H σ v E iv Q q => by
  obtain ⟨a, xs, rfl, ha, hs⟩ := iv
  cases hs with
  | cons r1 hs =>
  cases hs with
  | cons r2 hs =>
  cases hs
  refine ⟨_, pg_tup c.calm (pgs_cons (pg_name c.nd hi hx hf) (pgs_cons (pg_name c.nd hj hy hf2) pgs_nil h2) h1) hn hst, a, _, rfl, .inl (.inl ha), rfl, _, _, rfl, _, _, rfl, rfl, q _ ((E.putIt r1).putIt r2) fun vs hv => ?_⟩
  rw [wipe_set (hv j (by simp)), wipe_set (hv i (by simp))]
theorem g_tup3 (i j l : Nat) {x y z : Str} {s t u : Sl} {p1 p2 p3 : Pos} {kk : Nat} (c : Ctx X) (hi : X.N[i]? = some x := by rfl) (hx : Loc X.env.scope x := by first | exact Or.inl rfl | exact Or.inr rfl) (hf : X.fn x = true ∨ X.env.scope.names.lookup x = some .local := by first | exact .inl rfl | exact .inr rfl)
    (hj : X.N[j]? = some y := by rfl) (hy : Loc X.env.scope y := by first | exact Or.inl rfl | exact Or.inr rfl) (hf2 : X.fn y = true ∨ X.env.scope.names.lookup y = some .local := by first | exact .inl rfl | exact .inr rfl)
    (hl : X.N[l]? = some z := by rfl) (hz : Loc X.env.scope z := by first | exact Or.inl rfl | exact Or.inr rfl) (hf3 : X.fn z = true ∨ X.env.scope.names.lookup z = some .local := by first | exact .inl rfl | exact .inr rfl)
    (h1 : (assignEach [.Name x p1, .Name y p2, .Name z p3] X.env).map (·.2) = assign (.Name x p1) X.env :: (assignEach [.Name y p2, .Name z p3] X.env).map (·.2) := by rfl) (h2 : (assignEach [.Name y p2, .Name z p3] X.env).map (·.2) = assign (.Name y p2) X.env :: (assignEach [.Name z p3] X.env).map (·.2) := by rfl)
    (h3 : (assignEach [.Name z p3] X.env).map (·.2) = assign (.Name z p3) X.env :: (assignEach [] X.env).map (·.2) := by rfl)
    (hn : (assignEach [.Name x p1, .Name y p2, .Name z p3] X.env).length = 3 := by rfl) (hst : (assignEach [.Name x p1, .Name y p2, .Name z p3] X.env).findIdx? (·.1) = none := by rfl) :
    GTo X (.Tuple [.Name x p1, .Name y p2, .Name z p3] kk pos) (.tup [s, t, u]) [i, j, l] S (((S.set i s).set j t).set l u) := fun A B H σ v E iv Q q => by
  obtain ⟨a, xs, rfl, ha, hs⟩ := iv
  cases hs with
  | cons r1 hs =>
  cases hs with
  | cons r2 hs =>
  cases hs with
  | cons r3 hs =>
  cases hs
  refine ⟨_, pg_tup c.calm (pgs_cons (pg_name c.nd hi hx hf) (pgs_cons (pg_name c.nd hj hy hf2) (pgs_cons (pg_name c.nd hl hz hf3) pgs_nil h3) h2) h1) hn hst, a, _, rfl, .inl (.inl ha), rfl, _, _, rfl, _, _, rfl, _, _, rfl, rfl, q _ (((E.putIt r1).putIt r2).putIt r3) fun vs hv => ?_⟩
  rw [wipe_set (hv l (by simp)), wipe_set (hv j (by simp)), wipe_set (hv i (by simp))]
/-- a tuple's datum as its parts -/
theorem GTo.ofTup {tg : Expr} {ds : List PyData} {js : List Nat} {S' : List Sl} (h : GTo X tg (.tup (ds.map Sl.dat)) js S S') : GTo X tg (.one (.dat (.tuple ds))) js S S' := fun A B H σ v E iv Q q => by
  obtain ⟨im, hv⟩ := iv
  obtain ⟨p, xs, rfl, h1, h2⟩ := hv.toTup
  exact h A B H σ _ E ⟨p, xs, rfl, h1, SlIts.of_dvs im h2⟩ Q q

/-! ### iterators -/
structure ItOk (A : Hp) (J : It) (items : List Itm) (G : Hp) : Prop where
  go : ∀ i H, Ex G H → i < items.length → J.go i H
  stop : ∀ i H, Ex G H → i = items.length → J.stop i H
  yld : ∀ i H x H', Ex G H → J.yld i H x H' → i < items.length → Ex H H' ∧ ∃ it, items[i]? = some it ∧ ItmV A H' x it
/-- what is walked (S: the slots ahead; S0: those that the loop may change) -/
def ItD (X : Cx) (tg iter : Expr) (S S0 : List Sl) (items : List Itm) : Prop := ∀ A B H σ, EnvOk A B H σ S → ∀ R : It → Hp → Prop,
  (∀ J H1, Ex H H1 → (∀ G, Ex A G → (∀ a o, H1 a = some o → ¬ Own S0 σ a → G a = some o) → ItOk A J items G) → R J H1) → WI X tg iter σ H R
theorem notOwn_of {A B H H1 : Hp} {σ : L2.St} (E : EnvOk A B H σ S) (e : Ex H H1) {q : Addr} {xs : List V} (h : H1 q = some (.tup xs)) : ¬ Own S σ q := fun ⟨i, es, h1, h2⟩ => by
  obtain ⟨_, t, ys, g1, _, g3, _⟩ := E.vlst h1
  rw [h2] at g1
  cases g1
  rw [e _ _ g3] at h
  cases h
theorem notOwn_new {A B H : Hp} {σ : L2.St} (E : EnvOk A B H σ S) {q : Addr} (h : H q = none) : ¬ Own S σ q := fun ⟨i, es, h1, h2⟩ => by
  obtain ⟨_, t, ys, g1, _, g3, _⟩ := E.vlst h1
  rw [h2] at g1
  cases g1
  rw [h] at g3
  cases g3
/-- tuples as they stood at the start stand -/
theorem tx_of {A B H H1 G H2 : Hp} {σ : L2.St} (E : EnvOk A B H σ S) (e : Ex H H1) (g : ∀ a o, H1 a = some o → ¬ Own S σ a → G a = some o) (e2 : Ex G H2) : Tx H1 H2 := fun q xs h => e2 _ _ (g _ _ h (notOwn_of E e h))
theorem len_dats {ds : List PyData} : (dats ds).length = ds.length := List.length_map ..
theorem it_tup {tg : Expr} (h : EvD X e S (.tuple ds)) (im : imms ds = true) : ItD X tg e S S (dats ds) := fun A B H σ E R r =>
  ⟨_, pi_tup we, h A B H σ E _ fun v H1 e1 r1 => by
    obtain ⟨q, xs, rfl, h1, h2⟩ := r1.toTup
    refine ⟨q, rfl, ⟨xs, .inl (.inl h1)⟩, r _ _ e1 fun G ag g => ?_⟩
    have gq : G q = some (.tup xs) := g _ _ h1 (notOwn_of E e1 h1)
    refine ⟨fun i H2 e2 hi => ?_, fun i H2 e2 hi => ⟨xs, .inl (.inl (e2 _ _ gq)), by rw [hi, len_dats, h2.length]; exact Nat.le_refl _⟩, fun i H2 x H3 e2 hy hi => ?_⟩
    · rw [len_dats, ← h2.length] at hi
      exact ⟨xs, xs[i], .inl (.inl (e2 _ _ gq)), List.getElem?_eq_getElem hi⟩
    · obtain ⟨rfl, hx⟩ := hy
      obtain ⟨d, hd, hv⟩ := h2.get (hx xs (.inl (.inl (e2 _ _ gq))))
      exact ⟨Ex.refl _, .one (.dat d), by unfold dats; rw [List.getElem?_map, hd]; rfl, imms_get im hd, hv.tx (tx_of E e1 g e2) (imms_get im hd)⟩⟩
theorem it_new {tg : Expr} (h : EvN X e S ds) (im : imms ds = true) : ItD X tg e S S (dats ds) := fun A B H σ E R r =>
  ⟨_, pi_list we, h A B H σ E _ fun q xs H1 nq e1 h1 h2 => by
    refine ⟨q, rfl, ⟨xs, .inl (.inl h1)⟩, r _ _ e1 fun G ag g => ?_⟩
    have gq : G q = some (.lst xs) := g _ _ h1 (notOwn_new E nq)
    refine ⟨fun i H2 e2 hi => ?_, fun i H2 e2 hi => ⟨xs, .inl (.inl (e2 _ _ gq)), by rw [hi, len_dats, h2.length]; exact Nat.le_refl _⟩, fun i H2 x H3 e2 hy hi => ?_⟩
    · rw [len_dats, ← h2.length] at hi
      exact ⟨xs, xs[i], .inl (.inl (e2 _ _ gq)), List.getElem?_eq_getElem hi⟩
    · obtain ⟨rfl, hx⟩ := hy
      obtain ⟨d, hd, hv⟩ := h2.get (hx xs (.inl (.inl (e2 _ _ gq))))
      exact ⟨Ex.refl _, .one (.dat d), by unfold dats; rw [List.getElem?_map, hd]; rfl, imms_get im hd, hv.tx (tx_of E e1 g e2) (imms_get im hd)⟩⟩
/-- an own list, which the loop leaves -/
theorem it_own {tg : Expr} (i : Nat) (h : S[i]? = some (Sl.lst ds)) (hN : X.N[i]? = some x := by rfl) (hv : Vis X.env.scope x := by first | exact Or.inl rfl | exact Or.inr (Or.inl rfl) | exact Or.inr (Or.inr rfl)) (hdb : (x == ("__debug__" : Str)) = false := by decide)
    (hcd : (x == ("__classdict__" : Str)) = false := by decide) : ItD X tg (.Name x pos) S (S.set i Sl.any) (dats ds) := fun A B H σ E R r => by
  obtain ⟨im, q, xs, hq, hB, h1, h2⟩ := E.vlst h
  refine ⟨_, pi_list (pe_var hN hv hdb hcd), _, hq, q, rfl, ⟨xs, .inl (.inl h1)⟩, r _ _ (Ex.refl H) fun G ag g => ?_⟩
  have E0 : EnvOk A B H σ (S.set i Sl.any) := E.forget'
  have nq : ¬ Own (S.set i Sl.any) σ q := fun ⟨j, es, g1, g2⟩ => by
    rcases get_set g1 with ⟨_, _, z⟩ | ⟨n, g1⟩
    · cases z
    · exact n (E.dis i j ds es q h g1 hq g2)
  have gq : G q = some (.lst xs) := g _ _ h1 nq
  refine ⟨fun j H2 e2 hi => ?_, fun j H2 e2 hi => ⟨xs, .inl (.inl (e2 _ _ gq)), by rw [hi, len_dats, h2.length]; exact Nat.le_refl _⟩, fun j H2 x H3 e2 hy hi => ?_⟩
  · rw [len_dats, ← h2.length] at hi
    exact ⟨xs, xs[j], .inl (.inl (e2 _ _ gq)), List.getElem?_eq_getElem hi⟩
  · obtain ⟨rfl, hx⟩ := hy
    obtain ⟨d, hd, hv⟩ := h2.get (hx xs (.inl (.inl (e2 _ _ gq))))
    exact ⟨Ex.refl _, .one (.dat d), by unfold dats; rw [List.getElem?_map, hd]; rfl, imms_get im hd, hv.tx (tx_of E0 (Ex.refl H) g e2) (imms_get im hd)⟩
/-- an argument that is a list or a tuple, of anything -/
theorem it_arg {tg : Expr} (i : Nat) (h : S[i]? = some (Sl.arg d)) (hd : d = .list ds ∨ d = .tuple ds) (hN : X.N[i]? = some x := by rfl) (hv : Vis X.env.scope x := by first | exact Or.inl rfl | exact Or.inr (Or.inl rfl) | exact Or.inr (Or.inr rfl)) (hdb : (x == ("__debug__" : Str)) = false := by decide)
    (hcd : (x == ("__classdict__" : Str)) = false := by decide) : ItD X tg (.Name x pos) S S (ds.map fun d => .one (.arg d)) := fun A B H σ E R r => by
  obtain ⟨v, hq, hv1⟩ := E.varg h
  have aH : Ex A H := E.ax.trans E.ex
  rcases hd with rfl | rfl
  · obtain ⟨q, xs, rfl, h1, h2⟩ := hv1.toLst
    refine ⟨_, pi_list (pe_var hN hv hdb hcd), _, hq, q, rfl, ⟨xs, .inl (.inl (aH _ _ h1))⟩, r _ _ (Ex.refl H) fun G ag g => ?_⟩
    refine ⟨fun j H2 e2 hi => ?_, fun j H2 e2 hi => ⟨xs, .inl (.inl (e2 _ _ (ag _ _ h1))), by rw [hi, List.length_map, h2.length]; exact Nat.le_refl _⟩, fun j H2 x H3 e2 hy hi => ?_⟩
    · rw [List.length_map, ← h2.length] at hi
      exact ⟨xs, xs[j], .inl (.inl (e2 _ _ (ag _ _ h1))), List.getElem?_eq_getElem hi⟩
    · obtain ⟨rfl, hx⟩ := hy
      obtain ⟨d, hd, hv⟩ := h2.get (hx xs (.inl (.inl (e2 _ _ (ag _ _ h1)))))
      exact ⟨Ex.refl _, .one (.arg d), by rw [List.getElem?_map, hd]; rfl, hv⟩
  · obtain ⟨q, xs, rfl, h1, h2⟩ := hv1.toTup
    refine ⟨_, pi_tup (pe_var hN hv hdb hcd), _, hq, q, rfl, ⟨xs, .inl (.inl (aH _ _ h1))⟩, r _ _ (Ex.refl H) fun G ag g => ?_⟩
    refine ⟨fun j H2 e2 hi => ?_, fun j H2 e2 hi => ⟨xs, .inl (.inl (e2 _ _ (ag _ _ h1))), by rw [hi, List.length_map, h2.length]; exact Nat.le_refl _⟩, fun j H2 x H3 e2 hy hi => ?_⟩
    · rw [List.length_map, ← h2.length] at hi
      exact ⟨xs, xs[j], .inl (.inl (e2 _ _ (ag _ _ h1))), List.getElem?_eq_getElem hi⟩
    · obtain ⟨rfl, hx⟩ := hy
      obtain ⟨d, hd, hv⟩ := h2.get (hx xs (.inl (.inl (e2 _ _ (ag _ _ h1)))))
      exact ⟨Ex.refl _, .one (.arg d), by rw [List.getElem?_map, hd]; rfl, hv⟩
/-- enumerate of such an argument -/
theorem it_enumArg {elts : List Expr} {kk : Nat} {tpos p2 : Pos} (c : Ctx X) (i : Nat) (h : S[i]? = some (Sl.arg d)) (hd : d = .list ds ∨ d = .tuple ds) (hN : X.N[i]? = some x := by rfl) (hv : Vis X.env.scope x := by first | exact Or.inl rfl | exact Or.inr (Or.inl rfl) | exact Or.inr (Or.inr rfl)) (hdb : (x == ("__debug__" : Str)) = false := by decide)
    (hcd : (x == ("__classdict__" : Str)) = false := by decide) (hg : Gl X "enumerate" := by rfl) (hs : starEach [.Name x p2] X.env = [(false, eval (.Name x p2) X.env)] := by rfl) (hs2 : starEach [.Name x p2] X.env = (false, eval (.Name x p2) X.env) :: starEach [] X.env := by rfl) :
    ItD X (.Tuple elts kk tpos) (.Call (.Name "enumerate" p) [.Name x p2] [] pos) S S (ds.mapIdx fun i d => .tup [.dat (.int i), .arg d]) := fun A B H σ E R r => by
  obtain ⟨v, hq, hv1⟩ := E.varg h
  have aH : Ex A H := E.ax.trans E.ex
  rcases hd with rfl | rfl
  · obtain ⟨q, xs, rfl, h1, h2⟩ := hv1.toLst
    refine ⟨_, pi_enum hg c.enumerate (pa_cons (pe_var hN hv hdb hcd) pa_nil hs2) hs, _, hq, q, xs, rfl, .inl (.inl (aH _ _ h1)), r _ _ (Ex.refl H) fun G ag g => ?_⟩
    refine ⟨fun j H2 e2 hi => ?_, fun j H2 e2 hi => ⟨xs, .inl (.inl (e2 _ _ (ag _ _ h1))), by rw [hi, List.length_mapIdx, h2.length]; exact Nat.le_refl _⟩, fun j H2 x H3 e2 hy hi => ?_⟩
    · rw [List.length_mapIdx, ← h2.length] at hi
      exact ⟨xs, xs[j], .inl (.inl (e2 _ _ (ag _ _ h1))), List.getElem?_eq_getElem hi⟩
    · obtain ⟨T, y, rfl, nT, rfl, hx⟩ := hy
      obtain ⟨d, hd, hv⟩ := h2.get (hx xs (.inl (.inl (e2 _ _ (ag _ _ h1)))))
      exact ⟨Ex.new nT, .tup [.dat (.int j), .arg d], by rw [List.getElem?_mapIdx, hd]; rfl, T, _, rfl, upd_same, .cons ⟨rfl, .int _⟩ (.cons hv .nil)⟩
  · obtain ⟨q, xs, rfl, h1, h2⟩ := hv1.toTup
    refine ⟨_, pi_enumT hg c.enumerate (pa_cons (pe_var hN hv hdb hcd) pa_nil hs2) hs, _, hq, q, xs, rfl, .inl (.inl (aH _ _ h1)), r _ _ (Ex.refl H) fun G ag g => ?_⟩
    refine ⟨fun j H2 e2 hi => ?_, fun j H2 e2 hi => ⟨xs, .inl (.inl (e2 _ _ (ag _ _ h1))), by rw [hi, List.length_mapIdx, h2.length]⟩, fun j H2 x H3 e2 hy hi => ?_⟩
    · rw [List.length_mapIdx, ← h2.length] at hi
      exact ⟨xs, xs[j], .inl (.inl (e2 _ _ (ag _ _ h1))), List.getElem?_eq_getElem hi⟩
    · obtain ⟨T, y, rfl, nT, rfl, hx⟩ := hy
      obtain ⟨d, hd, hv⟩ := h2.get (hx xs (.inl (.inl (e2 _ _ (ag _ _ h1)))))
      exact ⟨Ex.new nT, .tup [.dat (.int j), .arg d], by rw [List.getElem?_mapIdx, hd]; rfl, T, _, rfl, upd_same, .cons ⟨rfl, .int _⟩ (.cons hv .nil)⟩
theorem it_enum {elts : List Expr} {kk : Nat} {tpos : Pos} (c : Ctx X) (h : EvD X e S (.tuple ds)) (im : imms ds = true) (hg : Gl X "enumerate" := by rfl) (hs : starEach [e] X.env = [(false, eval e X.env)] := by rfl) (hs2 : starEach [e] X.env = (false, eval e X.env) :: starEach [] X.env := by rfl) :
    ItD X (.Tuple elts kk tpos) (.Call (.Name "enumerate" p) [e] [] pos) S S (ds.mapIdx fun i d => .tup [.dat (.int i), .dat d]) := fun A B H σ E R r =>
  ⟨_, pi_enumT hg c.enumerate (pa_cons we pa_nil hs2) hs, h A B H σ E _ fun v H1 e1 r1 => by
    obtain ⟨q, xs, rfl, h1, h2⟩ := r1.toTup
    refine ⟨q, xs, rfl, .inl (.inl h1), r _ _ e1 fun G ag g => ?_⟩
    have gq : G q = some (.tup xs) := g _ _ h1 (notOwn_of E e1 h1)
    refine ⟨fun j H2 e2 hi => ?_, fun j H2 e2 hi => ⟨xs, .inl (.inl (e2 _ _ gq)), by rw [hi, List.length_mapIdx, h2.length]⟩, fun j H2 x H3 e2 hy hi => ?_⟩
    · rw [List.length_mapIdx, ← h2.length] at hi
      exact ⟨xs, xs[j], .inl (.inl (e2 _ _ gq)), List.getElem?_eq_getElem hi⟩
    · obtain ⟨T, y, rfl, nT, rfl, hx⟩ := hy
      obtain ⟨d, hd, hv⟩ := h2.get (hx xs (.inl (.inl (e2 _ _ gq))))
      have hv2 := hv.tx ((tx_of E e1 g e2).trans (Ex.new (o := .tup [.int (j : Nat), y]) nT).tx) (imms_get im hd)
      exact ⟨Ex.new nT, .tup [.dat (.int j), .dat d], by rw [List.getElem?_mapIdx, hd]; rfl, T, _, rfl, upd_same, .cons ⟨rfl, .int _⟩ (.cons ⟨imms_get im hd, hv2⟩ .nil)⟩⟩
def zip2 (ds es : List PyData) : List Itm := (ds.zip es).map fun z => .tup [.dat z.1, .dat z.2]
theorem it_zip2 {e2 : Expr} {es2 : List PyData} {elts : List Expr} {kk : Nat} {tpos : Pos} (c : Ctx X) (h : EvD X e S (.tuple ds)) (h' : EvD X e2 S (.tuple es2)) (hl : ds.length = es2.length) (im : imms ds = true) (im2 : imms es2 = true) (hg : Gl X "zip" := by rfl)
    (hs : starEach [e, e2] X.env = (false, eval e X.env) :: starEach [e2] X.env := by rfl) (hs2 : starEach [e2] X.env = (false, eval e2 X.env) :: starEach [] X.env := by rfl) (hpl : (backTo pos (starEach [e2] X.env)).any (·.1) = false := by rfl) :
    ItD X (.Tuple elts kk tpos) (.Call (.Name "zip" p) [e, e2] [] pos) S S (zip2 ds es2) := fun A B H σ E R r =>
  ⟨_, RZ.pi_zipA hg c.zip (pa_cons we (pa_cons we pa_nil hs2) hs) hs hpl, h A B H σ E _ fun v H0 e0 r0 => h' A B H0 σ (E.mono e0) _ fun v' H1 e1 r1 => by
    obtain ⟨q, xs, rfl, h1, h2⟩ := (r0.ex e1).toTup
    obtain ⟨q', ys, rfl, h3, h4⟩ := r1.toTup
    have e01 := e0.trans e1
    refine ⟨q, q', xs, ys, rfl, .inr ⟨.inl (.inl h1), .inl (.inl h3), r _ _ e01 fun G ag g => ?_⟩⟩
    have gq : G q = some (.tup xs) := g _ _ h1 (notOwn_of E e01 h1)
    have gq' : G q' = some (.tup ys) := g _ _ h3 (notOwn_of E e01 h3)
    have hlen : (zip2 ds es2).length = ds.length := by unfold zip2; rw [List.length_map, List.length_zip, ← hl, Nat.min_self]
    refine ⟨fun j H2 e2 hi => ?_, fun j H2 e2 hi => ⟨xs, ys, .inl (.inl (e2 _ _ gq)), .inl (.inl (e2 _ _ gq')), .inl (by rw [hi, hlen, h2.length]; exact Nat.le_refl _)⟩, fun j H2 x H3 e2 hy hi => ?_⟩
    · rw [hlen] at hi
      have l1 : j < xs.length := by rw [h2.length]; exact hi
      have l2 : j < ys.length := by rw [h4.length, ← hl]; exact hi
      exact ⟨xs, ys, xs[j], ys[j], .inl (.inl (e2 _ _ gq)), .inl (.inl (e2 _ _ gq')), List.getElem?_eq_getElem l1, List.getElem?_eq_getElem l2⟩
    · obtain ⟨T, x1, y1, rfl, nT, rfl, hx, hy⟩ := hy
      obtain ⟨d, hd, hv⟩ := h2.get (hx xs (.inl (.inl (e2 _ _ gq))))
      obtain ⟨d', hd', hv'⟩ := h4.get (hy ys (.inl (.inl (e2 _ _ gq'))))
      have tx := (tx_of E e01 g e2).trans (Ex.new (o := .tup [x1, y1]) nT).tx
      exact ⟨Ex.new nT, .tup [.dat d, .dat d'], by unfold zip2; rw [List.getElem?_map, List.getElem?_zip_eq_some (z := (d, d')).mpr ⟨hd, hd'⟩]; rfl, T, _, rfl, upd_same, .cons ⟨imms_get im hd, hv.tx tx (imms_get im hd)⟩ (.cons ⟨imms_get im2 hd', hv'.tx tx (imms_get im2 hd')⟩ .nil)⟩⟩
def zip3 (ds es fs : List PyData) : List Itm := (ds.zip (es.zip fs)).map fun z => .tup [.dat z.1, .dat z.2.1, .dat z.2.2]
theorem it_zip3 {e2 e3 : Expr} {es2 es3 : List PyData} {elts : List Expr} {kk : Nat} {tpos : Pos} (c : Ctx X) (h : EvD X e S (.tuple ds)) (h' : EvD X e2 S (.tuple es2)) (h'' : EvD X e3 S (.tuple es3)) (hl : ds.length = es2.length) (hl2 : es2.length = es3.length) (im : imms ds = true) (im2 : imms es2 = true) (im3 : imms es3 = true) (hg : Gl X "zip" := by rfl)
    (hs : starEach [e, e2, e3] X.env = (false, eval e X.env) :: starEach [e2, e3] X.env := by rfl) (hs2 : starEach [e2, e3] X.env = (false, eval e2 X.env) :: starEach [e3] X.env := by rfl) (hs3 : starEach [e3] X.env = (false, eval e3 X.env) :: starEach [] X.env := by rfl) (hpl : (backTo pos (starEach [e2, e3] X.env)).any (·.1) = false := by rfl) :
    ItD X (.Tuple elts kk tpos) (.Call (.Name "zip" p) [e, e2, e3] [] pos) S S (zip3 ds es2 es3) := fun A B H σ E R r =>
  ⟨_, pi_zip3 hg c.zip (pa_cons we (pa_cons we (pa_cons we pa_nil hs3) hs2) hs) hs hpl, h A B H σ E _ fun v H0 e0 r0 => h' A B H0 σ (E.mono e0) _ fun v' Hm em rm => h'' A B Hm σ (E.mono (e0.trans em)) _ fun v'' H1 e1 r1 => by
    obtain ⟨q, xs, rfl, h1, h2⟩ := (r0.ex (em.trans e1)).toTup
    obtain ⟨q', ys, rfl, h3, h4⟩ := (rm.ex e1).toTup
    obtain ⟨q'', zs, rfl, h5, h6⟩ := r1.toTup
    have e01 := (e0.trans em).trans e1
    refine ⟨q, q', q'', xs, ys, zs, rfl, .inl (.inl h1), .inl (.inl h3), .inl (.inl h5), r _ _ e01 fun G ag g => ?_⟩
    have gq : G q = some (.tup xs) := g _ _ h1 (notOwn_of E e01 h1)
    have gq' : G q' = some (.tup ys) := g _ _ h3 (notOwn_of E e01 h3)
    have gq'' : G q'' = some (.tup zs) := g _ _ h5 (notOwn_of E e01 h5)
    have hlen : (zip3 ds es2 es3).length = ds.length := by unfold zip3; rw [List.length_map, List.length_zip, List.length_zip, ← hl2, Nat.min_self, ← hl, Nat.min_self]
    have m1 := h2.length
    have m2 := h4.length
    have m3 := h6.length
    refine ⟨fun j H2 e2 hi => ?_, fun j H2 e2 hi => ⟨xs, ys, zs, .inl (.inl (e2 _ _ gq)), .inl (.inl (e2 _ _ gq')), .inl (.inl (e2 _ _ gq'')), by omega, by omega, by omega⟩, fun j H2 x H3 e2 hy hi => ?_⟩
    · rw [hlen] at hi
      have l1 : j < xs.length := by omega
      have l2 : j < ys.length := by omega
      have l3 : j < zs.length := by omega
      exact ⟨xs, ys, zs, xs[j], ys[j], zs[j], .inl (.inl (e2 _ _ gq)), .inl (.inl (e2 _ _ gq')), .inl (.inl (e2 _ _ gq'')), by omega, by omega, List.getElem?_eq_getElem l1, List.getElem?_eq_getElem l2, List.getElem?_eq_getElem l3⟩
    · obtain ⟨T, x1, y1, z1, rfl, nT, rfl, hx, hy, hz⟩ := hy
      obtain ⟨d, hd, hv⟩ := h2.get (hx xs (.inl (.inl (e2 _ _ gq))))
      obtain ⟨d', hd', hv'⟩ := h4.get (hy ys (.inl (.inl (e2 _ _ gq'))))
      obtain ⟨d'', hd'', hv''⟩ := h6.get (hz zs (.inl (.inl (e2 _ _ gq''))))
      have tx := (tx_of E e01 g e2).trans (Ex.new (o := .tup [x1, y1, z1]) nT).tx
      exact ⟨Ex.new nT, .tup [.dat d, .dat d', .dat d''], by unfold zip3; rw [List.getElem?_map, List.getElem?_zip_eq_some (z := (d, (d', d''))).mpr ⟨hd, List.getElem?_zip_eq_some (z := (d', d'')).mpr ⟨hd', hd''⟩⟩]; rfl, T, _, rfl, upd_same,
        .cons ⟨imms_get im hd, hv.tx tx (imms_get im hd)⟩ (.cons ⟨imms_get im2 hd', hv'.tx tx (imms_get im2 hd')⟩ (.cons ⟨imms_get im3 hd'', hv''.tx tx (imms_get im3 hd'')⟩ .nil))⟩⟩
def rng (lo : Int) (n : Nat) : List Itm := (List.range n).map fun (i : Nat) => .one (.dat (.int (lo + (i : Int))))
theorem it_range {tg : Expr} {n : Int} (c : Ctx X) (h : EvD X e S (.int n)) (h1 : -(2 ^ 62) ≤ n) (h2 : n < 2 ^ 62) (hg : Gl X "range" := by rfl) (hs : starEach [e] X.env = [(false, eval e X.env)] := by rfl) (hs2 : starEach [e] X.env = (false, eval e X.env) :: starEach [] X.env := by rfl) :
    ItD X tg (.Call (.Name "range" p) [e] [] pos) S S (rng 0 n.toNat) := fun A B H σ E R r =>
  ⟨_, pi_range1 hg c.range (pa_cons we pa_nil hs2) hs, h A B H σ E _ fun v H1 e1 r1 => ⟨n, by rw [r1.toInt], h1, h2, r _ _ e1 fun G ag g => ⟨fun j H2 e2 hi => by unfold rng at hi; rw [List.length_map, List.length_range] at hi; exact hi, fun j H2 e2 hi => by unfold rng at hi; rw [List.length_map, List.length_range] at hi; exact Nat.le_of_eq hi.symm, fun j H2 x H3 e2 hy hi => by
    obtain ⟨rfl, rfl⟩ := hy
    unfold rng at hi ⊢
    rw [List.length_map, List.length_range] at hi
    exact ⟨Ex.refl _, .one (.dat (.int (0 + (j : Int)))), by rw [List.getElem?_map, List.getElem?_range hi]; rfl, rfl, .int _⟩⟩⟩⟩
def rngD (hi : Int) (n : Nat) : List Itm := (List.range n).map fun (i : Nat) => .one (.dat (.int (hi + (i : Int) * (-1))))
/-- downward -/
theorem it_rangeD {tg e1 e2 e3 : Expr} {i k : Int} (c : Ctx X) (h : EvD X e1 S (.int i)) (h' : EvD X e2 S (.int k)) (h'' : EvD X e3 S (.int (-1))) (b1 : -(2 ^ 62) ≤ i) (b2 : i < 2 ^ 62) (b3 : -(2 ^ 62) ≤ k) (b4 : k < 2 ^ 62) (hg : Gl X "range" := by rfl)
    (hs : starEach [e1, e2, e3] X.env = (false, eval e1 X.env) :: starEach [e2, e3] X.env := by rfl) (hs2 : starEach [e2, e3] X.env = (false, eval e2 X.env) :: starEach [e3] X.env := by rfl) (hs3 : starEach [e3] X.env = (false, eval e3 X.env) :: starEach [] X.env := by rfl) (hpl : (backTo pos (starEach [e2, e3] X.env)).any (·.1) = false := by rfl) :
    ItD X tg (.Call (.Name "range" p) [e1, e2, e3] [] pos) S S (rngD i (i - k).toNat) := fun A B H σ E R r =>
  ⟨_, pi_range3 hg c.range (pa_cons we (pa_cons we (pa_cons we pa_nil hs3) hs2) hs) hs hpl, h A B H σ E _ fun v H0 e0 r0 => h' A B H0 σ (E.mono e0) _ fun v' Hm em rm => h'' A B Hm σ (E.mono (e0.trans em)) _ fun v'' H1 e1 r1 =>
    ⟨i, k, -1, (i - k).toNat, by rw [r0.toInt, rm.toInt, r1.toInt], RgC.neg b1 b2 b3 b4, r _ _ ((e0.trans em).trans e1) fun G ag g => ⟨fun j H2 e2 hi => by unfold rngD at hi; rw [List.length_map, List.length_range] at hi; exact hi, fun j H2 e2 hi => by unfold rngD at hi; rw [List.length_map, List.length_range] at hi; exact Nat.le_of_eq hi.symm, fun j H2 x H3 e2 hy hi => by
    obtain ⟨rfl, rfl⟩ := hy
    unfold rngD at hi ⊢
    rw [List.length_map, List.length_range] at hi
    exact ⟨Ex.refl _, .one (.dat (.int (i + (j : Int) * (-1)))), by rw [List.getElem?_map, List.getElem?_range hi]; rfl, rfl, .int _⟩⟩⟩⟩

/-! ### comprehensions -/
def wipeS (S : List Sl) : List Nat → List Sl
  | [] => S
  | v :: vs => (wipeS S vs).set v Sl.any
theorem EnvOk.wiped {A B H : Hp} {σ : L2.St} (E : EnvOk A B H σ S) : ∀ vs : List Nat, EnvOk A B H (wipe σ vs) (wipeS S vs)
  | [] => E
  | v :: vs => (EnvOk.wiped E vs).forget
theorem EnvOk.forgets {A B H : Hp} {σ : L2.St} (E : EnvOk A B H σ S) : ∀ vs : List Nat, EnvOk A B H σ (wipeS S vs)
  | [] => E
  | v :: vs => (EnvOk.forgets E vs).forget'
/-- item by item: the target's slots, the tests, the element -/
def CmpD (X : Cx) (scope : Scope) (tg : Expr) (ifs : List Expr) (elt : Expr) (vs : List Nat) (Sw : List Sl) : List Itm → List PyData → Prop
  | [], out => out = []
  | it :: r, out => ∃ js S1 b, (∀ j ∈ js, j ∈ vs) ∧ (∀ s H C cl fp, GTo (X.blk s H scope (compEnvC scope cl C X.env) fp) tg it js Sw S1) ∧ (∀ s H C cl fp, EvTs (X.blk s H scope (compEnvC scope cl C X.env) fp) ifs S1 b) ∧
      ((b = true ∧ ∃ y out', out = y :: out' ∧ imm y = true ∧ (∀ s H C cl fp, EvD (X.blk s H scope (compEnvC scope cl C X.env) fp) elt S1 y) ∧ CmpD X scope tg ifs elt vs Sw r out') ∨ (b = false ∧ CmpD X scope tg ifs elt vs Sw r out))
theorem CmpD.imm {scope : Scope} {tg elt : Expr} {ifs : List Expr} {vs : List Nat} {Sw : List Sl} : ∀ {items : List Itm} {out : List PyData}, CmpD X scope tg ifs elt vs Sw items out → imms out = true
  | [], out, h => by
    cases (show out = [] from h)
    rfl
  | it :: r, out, ⟨js, S1, b, _, _, _, h⟩ => by
    rcases h with ⟨_, y, out', rfl, i, _, h⟩ | ⟨_, h⟩
    · exact imms_cons.mpr ⟨i, CmpD.imm h⟩
    · exact CmpD.imm h
theorem CmpD.len {scope : Scope} {tg elt : Expr} {ifs : List Expr} {vs : List Nat} {Sw : List Sl} : ∀ {items : List Itm} {out : List PyData}, CmpD X scope tg ifs elt vs Sw items out → out.length ≤ items.length
  | [], out, h => by
    cases (show out = [] from h)
    exact Nat.le_refl _
  | it :: r, out, ⟨js, S1, b, _, _, _, h⟩ => by
    rcases h with ⟨_, y, out', rfl, i, _, h⟩ | ⟨_, h⟩
    · exact Nat.succ_le_succ (CmpD.len h)
    · exact Nat.le_succ_of_le (CmpD.len h)
/-- the reading of a comprehension: the walked thing's, then the new list's -/
theorem lc_read {scope : Scope} {tg elt iter : Expr} {ifs : List Expr} {vs : List Nat} {items : List Itm} {out : List PyData} {S0 : List Sl} (hi : ItD X tg iter S S0 items) (hw : ∀ A B H σ, EnvOk A B H σ S → EnvOk A B H σ S0) (h : CmpD X scope tg ifs elt vs (wipeS S vs) items out) (hz : items.length ≤ 100000) {A B H : Hp} {σ : L2.St} (E : EnvOk A B H σ S) (Q : VK)
    (q : ∀ p xs H', H p = none → Ex H H' → H' p = some (.lst xs) → Dvs H' xs out → Q (.ref p) H') :
    tLc (WI X tg iter) (fun v σ H Q => ∀ s H' C cl fp, WG (X.blk s H' scope (compEnvC scope cl C X.env) fp) tg v σ H Q) (fun σ H Q => ∀ s H' C cl fp, WTs (X.blk s H' scope (compEnvC scope cl C X.env) fp) ifs σ H Q) (fun σ H Q => ∀ s H' C cl fp, WE (X.blk s H' scope (compEnvC scope cl C X.env) fp) elt σ H Q) vs σ H Q := by
  refine hi A B H σ E _ fun J H1 e1 hJ Dl nD => ?_
  obtain ⟨G, bg, EG, hG⟩ := (hw _ _ _ _ (E.mono e1)).grow
  have IO := hJ G EG.ax hG
  refine ⟨fun i m H2 => ∃ done rest us, m = items.length - i ∧ i ≤ items.length ∧ H1 Dl = none ∧ Ex H1 H2 ∧ H2 Dl = some (.lst us) ∧ Dvs H2 us done ∧ imms done = true ∧ done.length ≤ i ∧ done ++ rest = out ∧ CmpD X scope tg ifs elt vs (wipeS S vs) (items.drop i) rest,
    ⟨_, [], out, [], rfl, Nat.zero_le _, nD, Ex.new nD, upd_same, .nil, rfl, Nat.le_refl _, rfl, h⟩, ?_⟩
  rintro i m H2 ⟨done, rest, us, rfl, hle, nD, e2, hD, hus, him, hdl, hout, hc⟩
  have g2 : Ex G H2 := EG.ex.trans e2
  by_cases hlt : i < items.length
  · refine .inr ⟨IO.go i H2 g2 hlt, fun H3 => ∃ done rest us, H1 Dl = none ∧ Ex H1 H3 ∧ H3 Dl = some (.lst us) ∧ Dvs H3 us done ∧ imms done = true ∧ done.length ≤ i + 1 ∧ done ++ rest = out ∧ CmpD X scope tg ifs elt vs (wipeS S vs) (items.drop (i + 1)) rest, fun H3 ⟨done, rest, us, q1, q2, q3, q4, q5, q6, q7, q8⟩ => ⟨items.length - (i + 1), by omega, done, rest, us, rfl, hlt, q1, q2, q3, q4, q5, q6, q7, q8⟩, fun x H3 hy => ?_⟩
    obtain ⟨e3, it, hit, iv⟩ := IO.yld i H2 x H3 g2 hy hlt
    rw [List.drop_eq_getElem_cons hlt] at hc
    have eit : items[i] = it := Option.some.inj ((List.getElem?_eq_getElem hlt).symm.trans hit)
    rw [eit] at hc
    obtain ⟨js, S1, b, hjs, hgt, hts, hb⟩ := hc
    have E3 : EnvOk A B H3 (wipe σ vs) (wipeS S vs) := (E.wiped vs).mono ((e1.trans e2).trans e3)
    have nB : B Dl = none := E.ex.back (e1.back nD)
    intro s H' C cl fp
    refine hgt s H' C cl fp A B H3 (wipe σ vs) x E3 iv _ fun σ4 E4 w4 => ⟨(w4 vs hjs).trans wipe_idem, ?_⟩
    intro s H' C cl fp
    refine hts s H' C cl fp A B H3 σ4 E4 _ fun H5 e5 => ?_
    have e15 : Ex H1 H5 := (e2.trans e3).trans e5
    rcases hb with ⟨rfl, y, out', rfl, iy, hel, hc'⟩ | ⟨rfl, hc'⟩
    · rw [if_pos rfl]
      intro s H' C cl fp
      refine hel s H' C cl fp A B H5 σ4 (E4.mono e5) _ fun v H6 e6 r6 => ?_
      have e26 : Ex H2 H6 := (e3.trans e5).trans e6
      have hD6 := e26 _ _ hD
      refine ⟨us, hD6, szl (by have := hus.length; omega), done ++ [y], out', us ++ [v], nD, (e2.trans e26).mut nD, upd_same, ?_, imms_append him (imms_cons.mpr ⟨iy, rfl⟩), by rw [List.length_append]; simp; omega, by rw [← hout]; simp, hc'⟩
      exact ((hus.ex e26).append (.cons r6 .nil)).tx (Tx.mut hD6) (imms_append him (imms_cons.mpr ⟨iy, rfl⟩))
    · rw [if_neg Bool.false_ne_true]
      have e25 : Ex H2 H5 := e3.trans e5
      exact ⟨done, rest, us, nD, e15, e25 _ _ hD, hus.ex e25, him, Nat.le_succ_of_le hdl, hout, hc'⟩
  · have e : i = items.length := by omega
    subst e
    rw [List.drop_length] at hc
    cases (show rest = [] from hc)
    rw [List.append_nil] at hout
    subst hout
    exact .inl ⟨IO.stop _ H2 g2 rfl, q Dl us H2 (e1.back nD) (e1.trans e2) hD hus⟩
theorem ev_lc {scope : Scope} {tg elt iter : Expr} {ifs : List Expr} {items : List Itm} {out : List PyData} (c : Ctx X) (own : List (Str × Nat)) (ok : blkC X.N X.env.scope scope own = true) {S0 : List Sl} (hi : ItD X tg iter S S0 items) (h : CmpD X scope tg ifs elt (own.map (·.2)) (wipeS S (own.map (·.2))) items out)
    (hz : items.length ≤ 100000) (hs : ∀ x, foldedSetIterable iter X.env x = pure x := by intro _; rfl) (hw : ∀ A B H σ, EnvOk A B H σ S → EnvOk A B H σ S0 := by first | exact fun _ _ _ _ E => E | exact fun _ _ _ _ E => E.forget') : EvN X (.ListComp elt [⟨tg, iter, ifs, 0⟩] scope pos) S out := fun A B H σ E Q q =>
  ⟨_, pe_lc c.calm c.nd wi (blkOk_by ok) (fun s H C cl fp => ⟨fun pins s0 σ H0 v u Q I r hq => (hq s H C cl fp).elim fun t ⟨p, q⟩ => p.run pins s0 σ H0 v u Q I r q⟩) (fun s H C cl fp => ⟨fun pins s0 σ H0 Q I hq => (hq s H C cl fp).elim fun t ⟨p, q⟩ => p.run pins s0 σ H0 Q I q⟩)
    (fun s H C cl fp => ⟨fun pins s0 σ H0 Q I hq => (hq s H C cl fp).elim fun t ⟨p, q⟩ => p.run pins s0 σ H0 Q I q⟩) hs, lc_read hi hw h hz E Q q⟩
/-- all items alike -/
theorem cmp_map {scope : Scope} {tg elt : Expr} {ifs : List Expr} {vs : List Nat} {Sw : List Sl} {β : Type} (item : β → Itm) (js : List Nat) (S1 : β → List Sl) (p : β → Bool) (f : β → PyData) (hj : ∀ j ∈ js, j ∈ vs) : ∀ (l : List β), (∀ b ∈ l, (∀ s H C cl fp, GTo (X.blk s H scope (compEnvC scope cl C X.env) fp) tg (item b) js Sw (S1 b)) ∧
    (∀ s H C cl fp, EvTs (X.blk s H scope (compEnvC scope cl C X.env) fp) ifs (S1 b) (p b)) ∧ (p b = true → imm (f b) = true ∧ ∀ s H C cl fp, EvD (X.blk s H scope (compEnvC scope cl C X.env) fp) elt (S1 b) (f b))) → CmpD X scope tg ifs elt vs Sw (l.map item) ((l.filter p).map f)
  | [], _ => rfl
  | b :: l, h => by
    obtain ⟨h1, h2, h3⟩ := h b List.mem_cons_self
    have ih := cmp_map item js S1 p f hj l fun x hx => h x (List.mem_cons_of_mem _ hx)
    refine ⟨js, S1 b, p b, hj, h1, h2, ?_⟩
    cases hp : p b with
    | true =>
      obtain ⟨i, h4⟩ := h3 hp
      exact .inl ⟨rfl, f b, (l.filter p).map f, by rw [List.filter_cons, if_pos hp, List.map_cons], i, h4, ih⟩
    | false => exact .inr ⟨rfl, by rw [List.filter_cons, if_neg (by rw [hp]; exact Bool.false_ne_true)]; exact ih⟩

/-! ### statements -/
structure Pst where
  nx : List Sl → Prop
  rt : PyData → Prop := fun _ => False
  rl : List PyData → Prop := fun _ => False
structure PstOk (A B : Hp) (P : Pst) (D : Ends) : Prop where
  nx : ∀ S' σ' H', P.nx S' → EnvOk A B H' σ' S' → D.nx σ' H'
  rt : ∀ d v H', P.rt d → Ex B H' → Dv H' v d → D.rt v H'
  rl : ∀ ds p xs H', P.rl ds → Ex B H' → B p = none → H' p = some (.lst xs) → Dvs H' xs ds → D.rt (.ref p) H'
def RunS (X : Cx) (sts : List Stmt) (S : List Sl) (P : Pst) : Prop := ∀ A B H σ D, EnvOk A B H σ S → PstOk A B P D → WSs X sts D σ H
def Run1 (X : Cx) (st : Stmt) (S : List Sl) (P : Pst) : Prop := ∀ A B H σ D, EnvOk A B H σ S → PstOk A B P D → WS X st D σ H
section
variable {P : Pst} {st : Stmt} {sts : List Stmt} {S0 S' : List Sl}
theorem run_nil (h : P.nx S) : RunS X [] S P := fun A B H σ D E K => ⟨_, pss_nil, K.nx S σ H h E⟩
theorem run_cons (h : Run1 X st S { P with nx := fun S' => RunS X sts S' P }) : RunS X (st :: sts) S P := fun A B H σ D E K =>
  ⟨_, pss_cons ws wss, h A B H σ { D with nx := WSs X sts D } E ⟨fun S' σ' H' r E' => r A B H' σ' D E' K, K.rt, K.rl⟩⟩
theorem run_one (h : Run1 X st S P) : RunS X [st] S P := fun A B H σ D E K => ⟨_, pss_one ws, h A B H σ D E K⟩
theorem run_forget (i : Nat) (h : RunS X sts (S.set i Sl.any) P) : RunS X sts S P := fun A B H σ D E K => h A B H σ D E.forget' K
theorem run_is {S' : List Sl} (e : S = S') (h : RunS X sts S' P) : RunS X sts S P := e ▸ h
/-- what a slot may be given -/
def EvS (X : Cx) (e : Expr) (S : List Sl) : Sl → Prop
  | .dat d => imm d = true ∧ EvD X e S d
  | .lst ds => imms ds = true ∧ EvN X e S ds
  | _ => False
def PutS (A B H H' : Hp) (v : V) : Sl → Prop
  | .dat d => imm d = true ∧ Dv H' v d
  | .lst ds => imms ds = true ∧ ∃ p xs, v = .ref p ∧ H p = none ∧ H' p = some (.lst xs) ∧ Dvs H' xs ds
  | _ => False
theorem EvS.run {s : Sl} (h : EvS X e S s) {A B H : Hp} {σ : L2.St} (E : EnvOk A B H σ S) {Q : VK} (q : ∀ v H', Ex H H' → PutS A B H H' v s → Q v H') : WE X e σ H Q := by
  cases s with
  | any => exact False.elim h
  | fix u => exact False.elim h
  | obj C0 fsd0 => exact False.elim h
  | pre F0 => exact False.elim h
  | arg d => exact False.elim h
  | dat d => exact h.2 A B H σ E Q fun v H' e1 r => q v H' e1 ⟨h.1, r⟩
  | lst ds => exact h.2 A B H σ E Q fun p xs H' n e1 h2 h3 => q _ H' e1 ⟨h.1, p, xs, rfl, n, h2, h3⟩
theorem EnvOk.putS {A B H H' : Hp} {σ : L2.St} (E : EnvOk A B H σ S) {i : Nat} {v : V} {s : Sl} (e : Ex H H') (h : PutS A B H H' v s) : EnvOk A B H' (σ.set i (some v)) (S.set i s) := by
  cases s with
  | any => exact False.elim h
  | fix u => exact False.elim h
  | obj C0 fsd0 => exact False.elim h
  | pre F0 => exact False.elim h
  | arg d => exact False.elim h
  | dat d => exact (E.mono e).setDat h.1 h.2
  | lst ds =>
    obtain ⟨im, p, xs, rfl, n, h2, h3⟩ := h
    exact E.setNew im e n h2 h3
theorem run_set (i : Nat) (s : Sl) {p' : Pos} (c : Ctx X) (he : EvS X e S s) (hn : P.nx (S.set i s)) (hi : X.N[i]? = some x := by rfl) (hx : Loc X.env.scope x := by first | exact Or.inl rfl | exact Or.inr rfl) (hs : swapsWith e (some (.Name x p')) pos.line X.env = pure false := by rfl)
    (hf : X.fn x = true ∨ X.env.scope.names.lookup x = some .local := by first | exact .inl rfl | exact .inr rfl) : Run1 X (.Assign [.Name x p'] e pos) S P := fun A B H σ D E K =>
  ⟨_, ps_set c.nd hi hx we hs hf, he.run E fun v H' e1 r => K.nx _ _ H' hn (E.putS e1 r)⟩
theorem run_setR (i : Nat) {R : PyData → Prop} {p' : Pos} (c : Ctx X) (he : EvR X e S R) (hn : ∀ d, R d → imm d = true ∧ P.nx (S.set i (.dat d))) (hi : X.N[i]? = some x := by rfl) (hx : Loc X.env.scope x := by first | exact Or.inl rfl | exact Or.inr rfl) (hs : swapsWith e (some (.Name x p')) pos.line X.env = pure false := by rfl)
    (hf : X.fn x = true ∨ X.env.scope.names.lookup x = some .local := by first | exact .inl rfl | exact .inr rfl) : Run1 X (.Assign [.Name x p'] e pos) S P := fun A B H σ D E K =>
  ⟨_, ps_set c.nd hi hx we hs hf, he A B H σ E _ fun d v H' o e1 r => K.nx _ _ H' (hn d o).2 ((E.mono e1).setDat (hn d o).1 r)⟩
theorem run_retR {R : PyData → Prop} (he : EvR X e S R) (hd : ∀ d, R d → P.rt d) : Run1 X (.Return (some e) pos) S P := fun A B H σ D E K => ⟨_, ps_ret we, he A B H σ E _ fun d v H1 o e1 r1 => K.rt d v H1 (hd d o) (E.ex.trans e1) r1⟩
/-- y = [..] -/
theorem run_setLc (i : Nat) {y : Str} {py spos : Pos} {scope : Scope} {tg elt iter : Expr} {ifs : List Expr} {items : List Itm} {out : List PyData} (c : Ctx X) (own : List (Str × Nat)) (ok : blkC X.N X.env.scope scope own = true) {S0 : List Sl} (hi : ItD X tg iter S S0 items) (h : CmpD X scope tg ifs elt (own.map (·.2)) (wipeS S (own.map (·.2))) items out)
    (hz : items.length ≤ 100000) (hn : P.nx (S.set i (Sl.lst out))) (hy : X.N[i]? = some y := by rfl) (hyl : X.env.scope.names.lookup y = some .local := by rfl) (hsw : swapsWith (.ListComp elt [⟨tg, iter, ifs, 0⟩] scope pos) (some (.Name y py)) spos.line X.env = pure true := by exact sw_true rfl rfl rfl (by decide +kernel))
    (hs : ∀ x, foldedSetIterable iter X.env x = pure x := by intro _; rfl) (hw : ∀ A B H σ, EnvOk A B H σ S → EnvOk A B H σ S0 := by first | exact fun _ _ _ _ E => E | exact fun _ _ _ _ E => E.forget') : Run1 X (.Assign [.Name y py] (.ListComp elt [⟨tg, iter, ifs, 0⟩] scope pos) spos) S P := fun A B H σ D E K =>
  ⟨_, ps_setLc (i := i) c.calm c.nd hy hyl hsw wi (blkOk_by ok) (fun s H C cl fp => ⟨fun pins s0 σ H0 v u Q I r hq => (hq s H C cl fp).elim fun t ⟨p, q⟩ => p.run pins s0 σ H0 v u Q I r q⟩) (fun s H C cl fp => ⟨fun pins s0 σ H0 Q I hq => (hq s H C cl fp).elim fun t ⟨p, q⟩ => p.run pins s0 σ H0 Q I q⟩)
    (fun s H C cl fp => ⟨fun pins s0 σ H0 Q I hq => (hq s H C cl fp).elim fun t ⟨p, q⟩ => p.run pins s0 σ H0 Q I q⟩) hs, lc_read hi hw h hz E _ fun p xs H' n e1 h2 h3 => K.nx _ _ H' hn (E.setNew h.imm e1 n h2 h3)⟩
/-- x, y = a, b (plain locals) -/
theorem run_par (i j : Nat) (s t : Sl) {y : Str} {px py pt pt2 : Pos} {kt k2 : Nat} (c : Ctx X) (ha : EvS X a S s) (hb : EvS X b S t) (hij : i ≠ j) (hn : P.nx ((S.set i s).set j t)) (hi : X.N[i]? = some x := by rfl) (hj : X.N[j]? = some y := by rfl)
    (hx : X.env.scope.names.lookup x = some .local := by rfl) (hy : X.env.scope.names.lookup y = some .local := by rfl) (hw : swappedStores [.Tuple [.Name x px, .Name y py] kt pt] (.Tuple [a, b] k2 pt2) X.env = pure (some [x, y]) := by rfl)
    (hs : swapsWithSole [.Tuple [.Name x px, .Name y py] kt pt] (.Tuple [a, b] k2 pt2) pos.line X.env = pure false := by rfl) (h1 : starEach [a, b] X.env = (false, eval a X.env) :: starEach [b] X.env := by rfl) (h2 : starEach [b] X.env = (false, eval b X.env) :: starEach [] X.env := by rfl) :
    Run1 X (.Assign [.Tuple [.Name x px, .Name y py] kt pt] (.Tuple [a, b] k2 pt2) pos) S P := fun A B H σ D E K =>
  ⟨_, ps_par c.calm c.nd hi hj hij hx hy (pa_cons we (pa_cons we pa_nil h2) h1) hw hs, ha.run E fun v H1 e1 r1 => hb.run (E.mono e1) fun v2 H2 e2 r2 => ⟨v, v2, rfl, by
    have E1 := (E.putS (i := i) e1 r1)
    cases t with
    | any => exact False.elim r2
    | fix u => exact False.elim r2
    | obj C0 fsd0 => exact False.elim r2
    | pre F0 => exact False.elim r2
    | arg d => exact False.elim r2
    | dat d => exact K.nx _ _ H2 hn ((E1.mono e2).setDat r2.1 r2.2)
    | lst ds =>
      obtain ⟨im, p, xs, rfl, n, g2, g3⟩ := r2
      exact K.nx _ _ H2 hn (E1.setNew im e2 n g2 g3)⟩⟩
/-- target = e, the target of names, e a datum -/
theorem run_asg {tg : Expr} {it : Itm} {js : List Nat} {S1 : List Sl} (he : ∀ A B H σ, EnvOk A B H σ S → ∀ Q : VK, (∀ v H', Ex H H' → ItmV A H' v it → Q v H') → WE X e σ H Q) (hg : GTo X tg it js S S1) (hn : P.nx S1)
    (hs : swapsWithSole [tg] e pos.line X.env = pure false := by rfl) (hw : swappedStores [tg] e X.env = pure none := by rfl)
    (h1 : (assignEach [tg] X.env).map (·.2) = [assign tg X.env] := by rfl) : Run1 X (.Assign [tg] e pos) S P := fun A B H σ D E K =>
  ⟨_, ps_asg we wg hs hw h1, he A B H σ E _ fun v H1 e1 iv => hg A B H1 σ v (E.mono e1) iv _ fun σ' E' _ => K.nx _ _ H1 hn E'⟩
theorem itm_tup {ds : List PyData} (im : imms ds = true) (h : EvD X e S (.tuple ds)) : ∀ A B H σ, EnvOk A B H σ S → ∀ Q : VK, (∀ v H', Ex H H' → ItmV A H' v (.tup (ds.map Sl.dat)) → Q v H') → WE X e σ H Q := fun A B H σ E Q q =>
  h A B H σ E Q fun v H1 e1 r1 => by
    obtain ⟨p, xs, rfl, h1, h2⟩ := r1.toTup
    exact q _ H1 e1 ⟨p, xs, rfl, h1, SlIts.of_dvs im h2⟩
theorem run_ret (he : EvD X e S d) (hd : P.rt d) : Run1 X (.Return (some e) pos) S P := fun A B H σ D E K => ⟨_, ps_ret we, he A B H σ E _ fun v H1 e1 r1 => K.rt d v H1 hd (E.ex.trans e1) r1⟩
theorem run_retN (he : EvN X e S ds) (hd : P.rl ds) : Run1 X (.Return (some e) pos) S P := fun A B H σ D E K => ⟨_, ps_ret we, he A B H σ E _ fun p xs H1 n e1 h2 h3 => K.rl ds p xs H1 hd (E.ex.trans e1) (E.ex.back n) h2 h3⟩
/-- return of an own list -/
theorem run_retOwn (i : Nat) {p2 : Pos} (h : S[i]? = some (Sl.lst ds)) (hd : P.rl ds) (hN : X.N[i]? = some x := by rfl) (hv : Vis X.env.scope x := by first | exact Or.inl rfl | exact Or.inr (Or.inl rfl) | exact Or.inr (Or.inr rfl)) (hdb : (x == ("__debug__" : Str)) = false := by decide)
    (hcd : (x == ("__classdict__" : Str)) = false := by decide) : Run1 X (.Return (some (.Name x p2)) pos) S P := fun A B H σ D E K => by
  obtain ⟨_, p, xs, h1, h2, h3, h4⟩ := E.vlst h
  exact ⟨_, ps_ret (pe_var hN hv hdb hcd), _, h1, K.rl ds p xs H hd E.ex h2 h3 h4⟩
theorem run_if {A1 B1 : List Stmt} {k : Bool} (h : EvT X c S k) (h1 : k = true → RunS X A1 S P) (h2 : k = false → RunS X B1 S P) : Run1 X (.If c A1 B1 pos) S P := fun A B H σ D E K => ⟨_, ps_if wt wss wss, h A B H σ E _ fun H1 e1 => by
  cases k with
  | true => exact h1 rfl A B H1 σ D (E.mono e1) K
  | false => exact h2 rfl A B H1 σ D (E.mono e1) K⟩
theorem run_expr (he : EvD X e S d) (hn : P.nx S) (hs : swapsWith e none pos.line X.env = pure false := by rfl) : Run1 X (.Expr e pos) S P := fun A B H σ D E K => ⟨_, ps_expr we hs, he A B H σ E _ fun v H1 e1 r1 => K.nx S σ H1 hn (E.mono e1)⟩
theorem run_never : Run1 X st S P → Run1 X st S P := id
theorem run_append (i : Nat) {p1 p2 p3 p4 : Pos} (h : S[i]? = some (Sl.lst ds)) (he : EvD X e S d) (im : imm d = true) (hz : ds.length < 100000) (hn : P.nx (S.set i (Sl.lst (ds ++ [d])))) (hN : X.N[i]? = some x := by rfl) (hv : Vis X.env.scope x := by first | exact Or.inl rfl | exact Or.inr (Or.inl rfl) | exact Or.inr (Or.inr rfl)) (hdb : (x == ("__debug__" : Str)) = false := by decide)
    (hcd : (x == ("__classdict__" : Str)) = false := by decide) (hbase : attributeBase (.Name x p1) "append" X.env (eval (.Name x p1) X.env) = eval (.Name x p1) X.env := by rfl)
    (hfew : ((backTo p3 (starEach [e] X.env)).all (fun x => !x.1) && (backToKw p3 (keywordEach [] X.env)).all (fun x => x.1.isSome) && decide ([e].length + ([] : List Keyword).length + (if ([] : List Keyword).isEmpty then 0 else 1) < 30)) = true := by rfl)
    (hline : (p2.endLine == p3.line) = true := by rfl) (hs : starEach [e] X.env = (false, eval e X.env) :: starEach [] X.env := by rfl) (hplain : (backTo p3 (starEach [] X.env)).any (·.1) = false := by rfl) (hsw : swapsWith (.Call (.Attribute (.Name x p1) "append" p2) [e] [] p3) none p4.line X.env = pure false := by rfl) :
    Run1 X (.Expr (.Call (.Attribute (.Name x p1) "append" p2) [e] [] p3) p4) S P := fun A B H σ D E K => by
  obtain ⟨im0, p, xs, h1, h2, h3, h4⟩ := E.vlst h
  refine ⟨_, ps_expr (pe_bm PySem.F.plainAttrs_list PySem.F.slot_list_append PySem.F.type_list_append mt_append (pe_var hN hv hdb hcd) (pa_cons we pa_nil hs) hbase hfew hline hs hplain) hsw, _, h1, .inl ⟨rfl, _, .inl (.inl h3)⟩, he A B H σ E _ fun v H1 e1 r1 => ?_⟩
  refine ⟨p, xs, v, rfl, rfl, e1 _ _ h3, szl (by rw [h4.length]; exact hz), K.nx _ σ _ hn ?_⟩
  exact (E.mono e1).mutate h h1 (imms_append im0 (imms_cons.mpr ⟨im, rfl⟩)) ((h4.ex e1).append (.cons r1 .nil))
theorem run_extend (i : Nat) {p1 p2 p3 p4 : Pos} {es2 : List PyData} (h : S[i]? = some (Sl.lst ds)) (he : EvN X e S es2) (im : imms es2 = true) (hz : ds.length + es2.length ≤ 100000) (hn : P.nx (S.set i (Sl.lst (ds ++ es2)))) (hN : X.N[i]? = some x := by rfl) (hv : Vis X.env.scope x := by first | exact Or.inl rfl | exact Or.inr (Or.inl rfl) | exact Or.inr (Or.inr rfl)) (hdb : (x == ("__debug__" : Str)) = false := by decide)
    (hcd : (x == ("__classdict__" : Str)) = false := by decide) (hbase : attributeBase (.Name x p1) "extend" X.env (eval (.Name x p1) X.env) = eval (.Name x p1) X.env := by rfl)
    (hfew : ((backTo p3 (starEach [e] X.env)).all (fun x => !x.1) && (backToKw p3 (keywordEach [] X.env)).all (fun x => x.1.isSome) && decide ([e].length + ([] : List Keyword).length + (if ([] : List Keyword).isEmpty then 0 else 1) < 30)) = true := by rfl)
    (hline : (p2.endLine == p3.line) = true := by rfl) (hs : starEach [e] X.env = (false, eval e X.env) :: starEach [] X.env := by rfl) (hplain : (backTo p3 (starEach [] X.env)).any (·.1) = false := by rfl) (hsw : swapsWith (.Call (.Attribute (.Name x p1) "extend" p2) [e] [] p3) none p4.line X.env = pure false := by rfl) :
    Run1 X (.Expr (.Call (.Attribute (.Name x p1) "extend" p2) [e] [] p3) p4) S P := fun A B H σ D E K => by
  obtain ⟨im0, p, xs, h1, h2, h3, h4⟩ := E.vlst h
  refine ⟨_, ps_expr (pe_bm PySem.F.plainAttrs_list PySem.F.slot_list_extend PySem.F.type_list_extend mt_extend (pe_var hN hv hdb hcd) (pa_cons we pa_nil hs) hbase hfew hline hs hplain) hsw, _, h1, .inl ⟨rfl, _, .inl (.inl h3)⟩, he A B H σ E _ fun q ys H1 n e1 g1 g2 => ?_⟩
  refine ⟨p, q, xs, ys, rfl, rfl, e1 _ _ h3, g1, sz (by rw [h4.length, g2.length]; exact hz), K.nx _ σ _ hn ?_⟩
  exact (E.mono e1).mutate h h1 (imms_append im0 im) ((h4.ex e1).append g2)
/-- xs[i] = e, xs an own list -/
theorem run_setItem (i : Nat) {p1 p2 p4 : Pos} {z : Int} {j : Nat} (h : S[i]? = some (Sl.lst ds)) (he : EvD X e S d) (im : imm d = true) (hb : EvD X b S (.int z)) (hj : ixN ds.length z = some j) (hn : P.nx (S.set i (Sl.lst (ds.set j d)))) (hN : X.N[i]? = some x := by rfl) (hv : Vis X.env.scope x := by first | exact Or.inl rfl | exact Or.inr (Or.inl rfl) | exact Or.inr (Or.inr rfl)) (hdb : (x == ("__debug__" : Str)) = false := by decide)
    (hcd : (x == ("__classdict__" : Str)) = false := by decide)
    (ha : ∀ v, assign (.Subscript (.Name x p1) b p2) X.env v = (do
      let ov ← holding [v] (eval (.Name x p1) X.env)
      let iv ← holding [v, ov] (eval b X.env)
      standAt p2
      holding [v, ov, iv] (setItem ov iv v)
      release [v, ov, iv] []) := by intro _; rfl)
    (hs : swapsWithSole [.Subscript (.Name x p1) b p2] e p4.line X.env = pure false := by rfl) (hw : swappedStores [.Subscript (.Name x p1) b p2] e X.env = pure none := by rfl)
    (h1 : (assignEach [.Subscript (.Name x p1) b p2] X.env).map (·.2) = [assign (.Subscript (.Name x p1) b p2) X.env] := by rfl) : Run1 X (.Assign [.Subscript (.Name x p1) b p2] e p4) S P := fun A B H σ D E K => by
  obtain ⟨im0, p, xs, g1, g2, g3, g4⟩ := E.vlst h
  refine ⟨_, ps_asg we (pg_sub (pe_var hN hv hdb hcd) we set_list ha) hs hw h1, he A B H σ E _ fun v H1 e1 r1 => ⟨_, g1, hb A B H1 σ (E.mono e1) _ fun y H2 e2 r2 => ⟨p, xs, z, j, rfl, r2.toInt, e2 _ _ (e1 _ _ g3), by rw [g4.length]; exact hj, K.nx _ σ _ hn ?_⟩⟩⟩
  refine (E.mono (e1.trans e2)).mutate h g1 (imms_iff.mpr fun w hw => ?_) ((g4.ex (e1.trans e2)).set (r1.ex e2) j)
  rcases List.mem_or_eq_of_mem_set hw with q | q
  · exact imms_iff.mp im0 w q
  · rw [q]; exact im
/-- turn by turn -/
def ForD (X : Cx) (tg : Expr) (body : List Stmt) (P : Pst) : List Itm → List Sl → List Sl → Prop
  | [], S, S' => S = S'
  | it :: r, S, S' => ∃ js S1 S2, GTo X tg it js S S1 ∧ RunS X body S1 { P with nx := fun S' => ∃ vs, wipeS S' vs = S2 } ∧ ForD X tg body P r S2 S'
/-- turn by turn, by what has been walked -/
theorem for_fold {tg : Expr} {body : List Stmt} {β : Type} (item : β → Itm) (St : List β → List Sl) : ∀ (p l : List β), (∀ u b v, u ++ b :: v = p ++ l → p.length ≤ u.length → ∃ js S1, GTo X tg (item b) js (St u) S1 ∧ RunS X body S1 { P with nx := fun S' => ∃ vs, wipeS S' vs = St (u ++ [b]) }) → ForD X tg body P (l.map item) (St p) (St (p ++ l))
  | p, [], _ => by rw [List.append_nil]; rfl
  | p, b :: l, h => by
    obtain ⟨js, S1, h1, h2⟩ := h p b l rfl (Nat.le_refl _)
    have ih := for_fold item St (p ++ [b]) l fun u c v e hl => h u c v (by rw [e, List.append_assoc]; rfl) (by rw [List.length_append] at hl; omega)
    rw [List.append_assoc] at ih
    exact ⟨js, S1, _, h1, h2, ih⟩
theorem for_run {tg : Expr} {body : List Stmt} {β : Type} (item : β → Itm) (St : List β → List Sl) (l : List β) (h : ∀ u b v, u ++ b :: v = l → ∃ js S1, GTo X tg (item b) js (St u) S1 ∧ RunS X body S1 { P with nx := fun S' => ∃ vs, wipeS S' vs = St (u ++ [b]) }) : ForD X tg body P (l.map item) (St []) (St l) :=
  for_fold item St [] l fun u b v e _ => h u b v e
theorem run_for {tg iter : Expr} {body : List Stmt} {items : List Itm} (c : Ctx X) (hi : ItD X tg iter S S0 items) (hw : ∀ A B H σ, EnvOk A B H σ S → EnvOk A B H σ S0) (h : ForD X tg body P items S0 S') (hn : P.nx S') (hp : PassesOwn (model X.prog X.w) X.A X.env X.xe := by exact PassesOwn.never) (hs : ∀ x, foldedSetIterable iter X.env x = pure x := by intro _; rfl) :
    Run1 X (.For tg iter body [] pos) S P := fun A B H σ D E K => by
  refine ⟨_, ps_for hp c.calm wi wg wss hs, hi A B H σ E _ fun J H1 e1 hJ => ?_⟩
  obtain ⟨G, bg, EG, hG⟩ := (hw _ _ _ _ (E.mono e1)).grow
  have IO := hJ G EG.ax hG
  refine ⟨fun i m σ2 H2 => ∃ Si, m = items.length - i ∧ i ≤ items.length ∧ EnvOk A G H2 σ2 Si ∧ ForD X tg body P (items.drop i) Si S', ⟨_, S0, rfl, Nat.zero_le _, EG, h⟩, ?_⟩
  rintro i m σ2 H2 ⟨Si, rfl, hle, E2, hf⟩
  by_cases hlt : i < items.length
  · rw [List.drop_eq_getElem_cons hlt] at hf
    obtain ⟨js, S1, S2, hg, hb, hf⟩ := hf
    refine .inr ⟨IO.go i H2 E2.ex hlt, fun σ3 H3 => EnvOk A G H3 σ3 S2, fun σ3 H3 E3 => ⟨items.length - (i + 1), by omega, S2, rfl, hlt, E3, hf⟩, fun x H3 hy => ?_⟩
    obtain ⟨e3, it, hit, iv⟩ := IO.yld i H2 x H3 E2.ex hy hlt
    have eit : items[i] = it := Option.some.inj ((List.getElem?_eq_getElem hlt).symm.trans hit)
    rw [eit] at hg
    refine hg A G H3 σ2 x (E2.mono e3) iv _ fun σ4 E4 _ => ?_
    refine hb A G H3 σ4 _ E4 ⟨fun S3 σ5 H5 q E5 => by obtain ⟨vs, rfl⟩ := q; exact E5.forgets vs, fun d v H' q e r => K.rt d v H' q (bg.trans e) r, fun ds p xs H' q e n r1 r2 => K.rl ds p xs H' q (bg.trans e) (bg.back n) r1 r2⟩
  · have e : i = items.length := by omega
    subst e
    rw [List.drop_length] at hf
    cases (show Si = S' from hf)
    exact .inl ⟨IO.stop _ H2 E2.ex rfl, K.nx _ σ2 H2 hn (E2.base E.ax bg)⟩
/-- a while, by a measured word over the slots -/
theorem run_while {t : Expr} {body : List Stmt} (W : Nat → List Sl → Prop) {m0 : Nat} (h0 : W m0 S) (hs : ∀ m Si, W m Si → ∃ k, EvT X t Si k ∧ (k = true → RunS X body Si { P with nx := fun S' => ∃ m', m' < m ∧ W m' S' }) ∧ (k = false → P.nx Si)) (hp : PassesOwn (model X.prog X.w) X.A X.env X.xe := by exact PassesOwn.never) :
    Run1 X (.While t body [] pos) S P := fun A B H σ D E K => by
  refine ⟨_, ps_while hp wt wss, fun m σ2 H2 => ∃ Si, W m Si ∧ EnvOk A B H2 σ2 Si, ⟨m0, S, h0, E⟩, ?_⟩
  rintro m σ2 H2 ⟨Si, w, E2⟩
  obtain ⟨k, ht, h1, h2⟩ := hs m Si w
  refine ht A B H2 σ2 E2 _ fun H3 e3 => ?_
  cases k with
  | true =>
    rw [if_pos rfl]
    exact ⟨fun σ4 H4 => ∃ m' Si, m' < m ∧ W m' Si ∧ EnvOk A B H4 σ4 Si, fun σ4 H4 ⟨m', Si, lt, w, E4⟩ => ⟨m', lt, Si, w, E4⟩, h1 rfl A B H3 σ2 _ (E2.mono e3) ⟨fun S' σ' H' ⟨m', lt, w⟩ E' => ⟨m', S', lt, w, E'⟩, K.rt, K.rl⟩⟩
  | false =>
    rw [if_neg Bool.false_ne_true]
    exact K.nx _ _ H3 (h2 rfl) (E2.mono e3)
end
end

/-! ### defs -/
section
variable {P : Program} {w : World} {K : PySem.W.Frag} {mg : Str → Option Value} {base : Heap} {x qual : Str} {params : Arguments} {body : List Stmt} {scope : Scope} {f : Addr} {fd : FuncData} {N ps : List Str} {k : Nat} {α : Type} {enc : α → List PyData} {pre : α → Prop}
/-- what of the built-ins' names the module leaves -/
structure Blt (mg : Str → Option Value) : Prop where
  len : mg "len" = none
  tuple : mg "tuple" = none
  list : mg "list" = none
  range : mg "range" = none
  enumerate : mg "enumerate" = none
  zip : mg "zip" = none
  max : mg "max" = none
  min : mg "min" = none
  sum : mg "sum" = none
  all : mg "all" = none
  any : mg "any" = none
  isi : mg "isinstance" = none
  int : mg "int" = none
  bool : mg "bool" = none
  str : mg "str" = none
  abs : mg "abs" = none
/-- a body's context -/
abbrev bX (P : Program) (w : World) (K : PySem.W.Frag) (mg : Str → Option Value) (base : Heap) (N : List Str) (qual : Str) (scope : Scope) (f : Addr) (cdv : Value) (A : Around) (outer : List Env) (s : Shared) (H : Hp) (E : XK) : Cx := (cxOf CX0 P w K mg base N qual scope f cdv A outer s H E).nox
theorem ctx_of {cdv : Value} {A : Around} {outer : List Env} {s : Shared} {H : Hp} {E : XK} (B : Blt mg) (nd : N.Nodup) (hr : Room k (A.deeper (envOfC qual scope s.heap.objs.size f cdv))) : Ctx (bX P w K mg base N qual scope f cdv A outer s H E) :=
  ⟨rfl, by
    have q := hr.un
    show (A.deeper (envOfC qual scope s.heap.objs.size f cdv)).units + 65 < cLine
    omega, nd, B.len, B.tuple, B.list, B.range, B.enumerate, B.zip, B.max, B.min, B.sum, B.all, B.any, B.isi, B.int, B.bool, B.str, B.abs⟩
def startD (N : List Str) (as : List Sl) : List Sl := as ++ List.replicate (N.length - as.length) Sl.any
theorem env_start {H : Hp} {vs : List V} {ds : List PyData} {as : List Sl} (h : Dvs H vs ds) (ha : as.length = ds.length) (hs : ∀ (i : Nat) (d : PyData) (s : Sl), ds[i]? = some d → as[i]? = some s → s = .any ∨ s = .arg d ∨ (s = .dat d ∧ imm d = true)) : EnvOk H H H (L2.start N vs) (startD N as) := by
  have hl := h.length
  refine ⟨Ex.refl H, Ex.refl H, ?_, fun i o s h1 h2 => ?_, fun i j es fs p h1 => ?_⟩
  · unfold L2.start startD
    rw [List.length_append, List.length_append, List.length_map, List.length_replicate, List.length_replicate, hl, ha]
  · unfold startD at h2
    unfold L2.start at h1
    by_cases hi : i < as.length
    · rw [List.getElem?_append_left hi] at h2
      rw [List.getElem?_append_left (by rw [List.length_map]; omega), List.getElem?_map] at h1
      have hv : i < vs.length := by omega
      rw [List.getElem?_eq_getElem hv] at h1
      cases h1
      obtain ⟨d, hd, r⟩ := h.get (List.getElem?_eq_getElem hv)
      rcases hs i d s hd h2 with rfl | rfl | ⟨rfl, im⟩
      · trivial
      · exact ⟨_, rfl, r⟩
      · exact ⟨im, _, rfl, r⟩
    · rw [List.getElem?_append_right (by omega), List.getElem?_replicate] at h2
      split at h2
      · cases h2
        trivial
      · cases h2
  · exfalso
    unfold startD at h1
    by_cases hi : i < as.length
    · rw [List.getElem?_append_left hi] at h1
      have hd : i < ds.length := by omega
      rcases hs i ds[i] _ (List.getElem?_eq_getElem hd) h1 with q | q | ⟨q, _⟩ <;> cases q
    · rw [List.getElem?_append_right (by omega), List.getElem?_replicate] at h1
      split at h1 <;> cases h1
/-- a def that gives a datum -/
theorem fn_D {out : α → PyData} (F : FunD K x qual params body scope [] [] f fd) (S : FnScope N ps scope) (hl : ∀ a, (enc a).length = ps.length) (as : α → List Sl) (has : ∀ a, pre a → (as a).length = (enc a).length ∧ ∀ (i : Nat) (d : PyData) (s : Sl), (enc a)[i]? = some d → (as a)[i]? = some s → s = .any ∨ s = .arg d ∨ (s = .dat d ∧ imm d = true))
    (hb : ∀ a, pre a → ∀ (cdv : Value) (A : Around) (outer : List Env) (s : Shared) (H : Hp) (E : XK), Room k (A.deeper (envOfC qual scope s.heap.objs.size f cdv)) →
      RunS (bX P w K mg base N qual scope f cdv A outer s H E) body (startD N (as a)) { nx := fun _ => False, rt := fun d => d = out a }) : FnOk P w K mg base CX0 (k + 1) f fd ps (spF enc pre out) := by
  refine F.ok S (fun vs H Q E ⟨a, r, _⟩ => r.length.trans (hl a)) fun cdv A outer s H vs Q E hr ⟨a, r, hp, q⟩ => ?_
  obtain ⟨h1, h2⟩ := has a hp
  obtain ⟨t, p, g⟩ := hb a hp cdv A outer s H E hr H H H (L2.start N vs) { nx := fun _ H' => Q .non H', rt := Q } (env_start r h1 h2) ⟨fun _ _ _ z _ => z.elim, fun d v H' e1 e2 e3 => q v H' e2 (e1 ▸ e3), fun _ _ _ _ z _ _ _ _ => z.elim⟩
  exact ⟨t, p.nox, g⟩
/-- a def that gives a datum of which a word is known -/
theorem fn_R {out : α → PyData → Prop} (F : FunD K x qual params body scope [] [] f fd) (S : FnScope N ps scope) (hl : ∀ a, (enc a).length = ps.length) (as : α → List Sl) (has : ∀ a, pre a → (as a).length = (enc a).length ∧ ∀ (i : Nat) (d : PyData) (s : Sl), (enc a)[i]? = some d → (as a)[i]? = some s → s = .any ∨ s = .arg d ∨ (s = .dat d ∧ imm d = true))
    (hb : ∀ a, pre a → ∀ (cdv : Value) (A : Around) (outer : List Env) (s : Shared) (H : Hp) (E : XK), Room k (A.deeper (envOfC qual scope s.heap.objs.size f cdv)) →
      RunS (bX P w K mg base N qual scope f cdv A outer s H E) body (startD N (as a)) { nx := fun _ => False, rt := fun d => out a d }) : FnOk P w K mg base CX0 (k + 1) f fd ps (spR enc pre out) := by
  refine F.ok S (fun vs H Q E ⟨a, r, _⟩ => r.length.trans (hl a)) fun cdv A outer s H vs Q E hr ⟨a, r, hp, q⟩ => ?_
  obtain ⟨h1, h2⟩ := has a hp
  obtain ⟨t, p, g⟩ := hb a hp cdv A outer s H E hr H H H (L2.start N vs) { nx := fun _ H' => Q .non H', rt := Q } (env_start r h1 h2) ⟨fun _ _ _ z _ => z.elim, fun d v H' e1 e2 e3 => q d v H' e1 e2 e3, fun _ _ _ _ z _ _ _ _ => z.elim⟩
  exact ⟨t, p.nox, g⟩
/-- a def that gives a new list -/
theorem fn_N {out : α → List PyData} (F : FunD K x qual params body scope [] [] f fd) (S : FnScope N ps scope) (hl : ∀ a, (enc a).length = ps.length) (as : α → List Sl) (has : ∀ a, pre a → (as a).length = (enc a).length ∧ ∀ (i : Nat) (d : PyData) (s : Sl), (enc a)[i]? = some d → (as a)[i]? = some s → s = .any ∨ s = .arg d ∨ (s = .dat d ∧ imm d = true))
    (hb : ∀ a, pre a → ∀ (cdv : Value) (A : Around) (outer : List Env) (s : Shared) (H : Hp) (E : XK), Room k (A.deeper (envOfC qual scope s.heap.objs.size f cdv)) →
      RunS (bX P w K mg base N qual scope f cdv A outer s H E) body (startD N (as a)) { nx := fun _ => False, rl := fun d => d = out a }) : FnOk P w K mg base CX0 (k + 1) f fd ps (spN enc pre out) := by
  refine F.ok S (fun vs H Q E ⟨a, r, _⟩ => r.length.trans (hl a)) fun cdv A outer s H vs Q E hr ⟨a, r, hp, q⟩ => ?_
  obtain ⟨h1, h2⟩ := has a hp
  obtain ⟨t, p, g⟩ := hb a hp cdv A outer s H E hr H H H (L2.start N vs) { nx := fun _ H' => Q .non H', rt := Q } (env_start r h1 h2) ⟨fun _ _ _ z _ => z.elim, fun _ _ _ z _ _ => z.elim, fun ds p xs H' z e1 n h3 h4 => q p xs H' n e1 h3 (z ▸ h4)⟩
  exact ⟨t, p.nox, g⟩
/-- where a def stands -/
structure DefAt (K : PySem.W.Frag) (mg : Str → Option Value) (x : Str) (st : Stmt) : Prop where
  ex : ∃ f fd, mg x = some (.ref f) ∧ FunD K x x (defArgs st) (defBody st) (defScope st) [] [] f fd
end
end Ow
end

section
set_option linter.all false
set_option maxRecDepth 100000
set_option maxHeartbeats 4000000
set_option autoImplicit false
/-! The text by places. -/
namespace Ow
open PySem L2 OwL
open PyProof.Rows (envOfC)
def asOk : List PyData → List Sl → Prop
  | [], [] => True
  | d :: ds, s :: as => (s = .any ∨ s = .arg d ∨ (s = .dat d ∧ imm d = true)) ∧ asOk ds as
  | _, _ => False
theorem as_ok : ∀ {ds : List PyData} {as : List Sl}, asOk ds as → as.length = ds.length ∧ ∀ (i : Nat) (d : PyData) (s : Sl), ds[i]? = some d → as[i]? = some s → s = .any ∨ s = .arg d ∨ (s = .dat d ∧ imm d = true)
  | [], [], _ => ⟨rfl, fun i d s h => by simp at h⟩
  | d :: ds, s :: as, ⟨h, hs⟩ => by
    obtain ⟨h1, h2⟩ := as_ok hs
    refine ⟨by rw [List.length_cons, List.length_cons, h1], fun i d' s' e1 e2 => ?_⟩
    cases i with
    | zero =>
      cases (show d = d' from Option.some.inj e1)
      cases (show s = s' from Option.some.inj e2)
      exact h
    | succ i => exact h2 i d' s' e1 e2
  | [], _ :: _, h => h.elim
  | _ :: _, [], h => h.elim
/-- an argument's slot: as it is, or as plain data -/
theorem aA {s : Sl} {d : PyData} (h : s = .arg d := by rfl) : s = .any ∨ s = .arg d ∨ (s = .dat d ∧ imm d = true) := .inr (.inl h)
theorem aD {s : Sl} {d : PyData} (h : imm d = true := by rfl) (h2 : s = .dat d := by rfl) : s = .any ∨ s = .arg d ∨ (s = .dat d ∧ imm d = true) := .inr (.inr ⟨h2, h⟩)
section
variable {P : Program} {w : World} {K : PySem.W.Frag} {mg : Str → Option Value} {base : Heap}

abbrev s_is_integer : Stmt := top 13
theorem sc_is_integer : FnScope ["value"] ["value"] (defScope s_is_integer) := ⟨rfl, rfl, rfl, by decide +kernel, rfl, by decide +kernel, by decide +kernel⟩
def isIB : PyData → Bool
  | .int _ => true
  | .bool _ => true
  | _ => false
def isBl : PyData → Bool
  | .bool _ => true
  | _ => false
theorem kit_int : ∀ d : PyData, kitB (tyN d) "int" = some (isIB d)
  | .none => (by decide +kernel : kitB "NoneType" "int" = some false)
  | .bool _ => (by decide +kernel : kitB "bool" "int" = some true)
  | .int _ => (by decide +kernel : kitB "int" "int" = some true)
  | .str _ => (by decide +kernel : kitB "str" "int" = some false)
  | .list _ => (by decide +kernel : kitB "list" "int" = some false)
  | .tuple _ => (by decide +kernel : kitB "tuple" "int" = some false)
  | .dict _ => (by decide +kernel : kitB "dict" "int" = some false)
theorem kit_bool : ∀ d : PyData, kitB (tyN d) "bool" = some (isBl d)
  | .none => (by decide +kernel : kitB "NoneType" "bool" = some false)
  | .bool _ => (by decide +kernel : kitB "bool" "bool" = some true)
  | .int _ => (by decide +kernel : kitB "int" "bool" = some false)
  | .str _ => (by decide +kernel : kitB "str" "bool" = some false)
  | .list _ => (by decide +kernel : kitB "list" "bool" = some false)
  | .tuple _ => (by decide +kernel : kitB "tuple" "bool" = some false)
  | .dict _ => (by decide +kernel : kitB "dict" "bool" = some false)
def isInt : PyData → Bool
  | .int _ => true
  | _ => false
theorem isInt_eq : ∀ d : PyData, (isIB d && !isBl d) = isInt d
  | .none | .bool _ | .int _ | .str _ | .list _ | .tuple _ | .dict _ => rfl
theorem boot_int : bootBuiltins "int" = some (.type "int") := by decide +kernel
theorem boot_bool : bootBuiltins "bool" = some (.type "bool") := by decide +kernel
theorem c_is_integer (B : Blt mg) (D : DefAt K mg "is_integer" s_is_integer) : CalF P w K mg base "is_integer" 1 ["value"] (spF (α := PyData) (fun d => [d]) (fun _ => True) fun d => .bool (isInt d)) := by
  obtain ⟨f, fd, h1, F⟩ := D.ex
  refine ⟨f, fd, h1, F.kp, F.bindsN fun _ _ _ _ _ _ us hl => match us, hl with | [_], _ => rfl, ?_⟩
  refine fn_D F sc_is_integer (fun _ => rfl) (fun d => [.arg d]) (fun d _ => as_ok ⟨aA, trivial⟩) fun d _ cdv A outer s H E hr => ?_
  have c := ctx_of (P := P) (w := w) (K := K) (base := base) (f := f) (cdv := cdv) (outer := outer) (H := H) (E := E) B sc_is_integer.nd hr
  refine run_one (run_ret (ev_and (ev_isi c (ev_var 0 rfl rfl) c.int boot_int (kit_int d)) fun _ => ev_one (ev_not (ev_isi c (ev_var 0 rfl rfl) c.bool boot_bool (kit_bool d)))) ?_)
  exact congrArg PyData.bool (isInt_eq d)
end
end Ow
end

section
set_option linter.all false
set_option autoImplicit false
/-! The mathematics, with no program in sight: boards behind the first deeds of each hand, who can be last, unseen steps. -/
namespace Om
abbrev Hist := List (Nat × Nat)
/-- how many deeds of a hand -/
def cnt (z : Nat) : Hist → Nat
  | [] => 0
  | l :: h => (if l.1 = z then 1 else 0) + cnt z h
theorem cnt_app (z : Nat) : ∀ g h : Hist, cnt z (g ++ h) = cnt z g + cnt z h
  | [], h => by simp [cnt]
  | l :: g, h => by
    show (if l.1 = z then 1 else 0) + cnt z (g ++ h) = _
    rw [cnt_app z g h]
    show _ = (if l.1 = z then 1 else 0) + cnt z g + cnt z h
    omega
theorem cnt_cons (z : Nat) (l : Nat × Nat) (h : Hist) : cnt z (l :: h) = (if l.1 = z then 1 else 0) + cnt z h := rfl
theorem cnt_one (z : Nat) (l : Nat × Nat) : cnt z [l] = if l.1 = z then 1 else 0 := by simp [cnt]
def dec (n : Nat → Nat) (z : Nat) : Nat → Nat := fun y => if y = z then n y - 1 else n y
theorem dec_same (n : Nat → Nat) (z : Nat) : dec n z z = n z - 1 := if_pos rfl
theorem dec_ne (n : Nat → Nat) {z y : Nat} (h : y ≠ z) : dec n z y = n y := if_neg h
theorem dec_comm (n : Nat → Nat) (z y : Nat) : dec (dec n z) y = dec (dec n y) z := by
  by_cases e : z = y
  · rw [e]
  · funext w
    by_cases h1 : w = z
    · subst h1
      rw [dec_ne _ e, dec_same, dec_same, dec_ne _ e]
    · by_cases h2 : w = y
      · subst h2
        rw [dec_same, dec_ne _ h1, dec_ne _ h1, dec_same]
      · rw [dec_ne _ h2, dec_ne _ h1, dec_ne _ h1, dec_ne _ h2]
def setN (n : Nat → Nat) (z k : Nat) : Nat → Nat := fun y => if y = z then k else n y
theorem setN_same (n : Nat → Nat) (z k : Nat) : setN n z k z = k := if_pos rfl
theorem setN_ne (n : Nat → Nat) {z y : Nat} (k : Nat) (h : y ≠ z) : setN n z k y = n y := if_neg h
section
variable (f : Nat → Nat → Nat)
/-- the board behind the first n of each hand's deeds, from b on -/
def Bd : Hist → (Nat → Nat) → Nat → Nat
  | [], _, b => b
  | l :: r, n, b => Bd r (dec n l.1) (if 0 < n l.1 then f l.2 b else b)
theorem Bd_cons (l : Nat × Nat) (r : Hist) (n : Nat → Nat) (b : Nat) : Bd f (l :: r) n b = Bd f r (dec n l.1) (if 0 < n l.1 then f l.2 b else b) := rfl
theorem Bd_app : ∀ (g t : Hist) (n : Nat → Nat) (b : Nat), Bd f (g ++ t) n b = Bd f t (fun y => n y - cnt y g) (Bd f g n b)
  | [], t, n, b => rfl
  | l :: g, t, n, b => by
    show Bd f (l :: (g ++ t)) n b = _
    rw [Bd_cons, Bd_cons, Bd_app g t]
    congr 1
    funext y
    rw [cnt_cons]
    by_cases e : y = l.1
    · subst e
      rw [dec_same, if_pos rfl]
      omega
    · rw [dec_ne n e, if_neg (fun z => e z.symm)]
      omega
/-- it hangs on the numbers up to the counts alone -/
theorem Bd_min : ∀ (g : Hist) (n n' : Nat → Nat) (b : Nat), (∀ y, min (n y) (cnt y g) = min (n' y) (cnt y g)) → Bd f g n b = Bd f g n' b
  | [], _, _, _, _ => rfl
  | l :: g, n, n', b, h => by
    have hl := h l.1
    rw [cnt_cons, if_pos rfl] at hl
    rw [Bd_cons, Bd_cons]
    have e1 : (if 0 < n l.1 then f l.2 b else b) = if 0 < n' l.1 then f l.2 b else b := by
      by_cases q : 0 < n l.1
      · rw [if_pos q, if_pos (by omega)]
      · rw [if_neg q, if_neg (by omega)]
    rw [e1]
    apply Bd_min g
    intro y
    have hy := h y
    rw [cnt_cons] at hy
    by_cases e : y = l.1
    · subst e
      rw [if_pos rfl] at hy
      rw [dec_same, dec_same]
      omega
    · rw [if_neg (fun z => e z.symm)] at hy
      rw [dec_ne n e, dec_ne n' e]
      omega
theorem Bd_zero (g : Hist) (n : Nat → Nat) (b : Nat) (h : ∀ y, 0 < cnt y g → n y = 0) : Bd f g n b = b := by
  induction g generalizing n with
  | nil => rfl
  | cons l g ih =>
    have hl : n l.1 = 0 := h l.1 (by rw [cnt_cons, if_pos rfl]; omega)
    rw [Bd_cons, if_neg (by omega)]
    refine ih _ fun y hy => ?_
    have := h y (by rw [cnt_cons]; omega)
    unfold dec
    by_cases e : y = l.1
    · rw [if_pos e]
      omega
    · rw [if_neg e]
      exact this
variable (s : Nat)
/-- alike for ever -/
def Alike (g g' : Hist) : Prop := (∀ y, cnt y g = cnt y g') ∧ ∀ n, Bd f g n s = Bd f g' n s
theorem Alike.refl (g : Hist) : Alike f s g g := ⟨fun _ => rfl, fun _ => rfl⟩
theorem Alike.symm {g g' : Hist} (h : Alike f s g g') : Alike f s g' g := ⟨fun y => (h.1 y).symm, fun n => (h.2 n).symm⟩
theorem Alike.trans {g g' g'' : Hist} (h : Alike f s g g') (h' : Alike f s g' g'') : Alike f s g g'' := ⟨fun y => (h.1 y).trans (h'.1 y), fun n => (h.2 n).trans (h'.2 n)⟩
/-- from the vectors up to the counts to all -/
theorem alike_of {g g' : Hist} (hc : ∀ y, cnt y g = cnt y g') (h : ∀ n, (∀ y, n y ≤ cnt y g) → Bd f g n s = Bd f g' n s) : Alike f s g g' := ⟨hc, fun n => by
  rw [Bd_min f g n (fun y => min (n y) (cnt y g)) s (fun y => by omega), Bd_min f g' n (fun y => min (n y) (cnt y g)) s (fun y => by rw [hc y]; omega)]
  exact h _ fun y => by omega⟩
/-- hand z's last deed can be last, by d -/
def Last (g : Hist) (z d : Nat) : Prop := ∀ n, cnt z g ≤ n z → Bd f g n s = f d (Bd f g (setN n z (cnt z g - 1)) s)
theorem last_end (u : Hist) (z d : Nat) : Last f s (u ++ [(z, d)]) z d := fun n hn => by
  rw [cnt_app, cnt_one, if_pos rfl] at hn
  rw [Bd_app, Bd_app, Bd_cons, Bd_cons, cnt_app, cnt_one, if_pos rfl]
  show (if 0 < n z - cnt z u then f d (Bd f u n s) else Bd f u n s) = f d (if 0 < setN n z (cnt z u + 1 - 1) z - cnt z u then f d (Bd f u (setN n z (cnt z u + 1 - 1)) s) else Bd f u (setN n z (cnt z u + 1 - 1)) s)
  rw [setN_same, if_pos (by omega), if_neg (by omega)]
  congr 1
  apply Bd_min
  intro y
  by_cases h : y = z
  · subst h
    rw [setN_same]
    omega
  · rw [setN_ne n _ h]
theorem Last.alike {g g' : Hist} {z d : Nat} (h : Last f s g z d) (a : Alike f s g g') : Last f s g' z d := fun n hn => by
  rw [← a.2, ← a.2, ← a.1]
  exact h n (by rw [a.1]; exact hn)
theorem last_mid {p t : Hist} {z d : Nat} (ht : cnt z t = 1) (h : Last f s (p ++ t) z d) (n m : Nat → Nat) (hz : m z = 1) (hn : ∀ w, 0 < m w → cnt w p ≤ n w) :
    Bd f t m (Bd f p n s) = f d (Bd f t (setN m z 0) (Bd f p n s)) := by
  have hzn := hn z (by omega)
  have hc : cnt z (p ++ t) = cnt z p + 1 := by rw [cnt_app, ht]
  have L := h (fun w => min (n w) (cnt w p) + m w) (by rw [hc]; show cnt z p + 1 ≤ min (n z) (cnt z p) + m z; omega)
  have e1 : Bd f p (fun w => min (n w) (cnt w p) + m w) s = Bd f p n s := by
    apply Bd_min
    intro y
    by_cases hy : 0 < m y
    · have := hn y hy
      omega
    · omega
  have e2 : Bd f p (setN (fun w => min (n w) (cnt w p) + m w) z (cnt z p + 1 - 1)) s = Bd f p n s := by
    apply Bd_min
    intro y
    by_cases h : y = z
    · subst h
      rw [setN_same]
      omega
    · rw [setN_ne _ _ h]
      by_cases hy : 0 < m y
      · have := hn y hy
        omega
      · omega
  rw [hc, Bd_app, Bd_app, e1, e2] at L
  have e3 : Bd f t (fun y => min (n y) (cnt y p) + m y - cnt y p) (Bd f p n s) = Bd f t m (Bd f p n s) := by
    congr 1
    funext y
    by_cases hy : 0 < m y
    · have := hn y hy
      omega
    · omega
  have e4 : Bd f t (fun y => setN (fun w => min (n w) (cnt w p) + m w) z (cnt z p + 1 - 1) y - cnt y p) (Bd f p n s) = Bd f t (setN m z 0) (Bd f p n s) := by
    congr 1
    funext y
    by_cases h : y = z
    · subst h
      rw [setN_same, setN_same]
      omega
    · rw [setN_ne _ _ h, setN_ne _ _ h]
      by_cases hy : 0 < m y
      · have := hn y hy
        omega
      · omega
  rw [e4] at L
  rw [← e3]
  exact L
/-- a deed put in its hand's last place -/
theorem put_alike {p q : Hist} {z d0 d : Nat} (hq : cnt z q = 0) (h : Last f s (p ++ (z, d0) :: q) z d) : Alike f s (p ++ (z, d0) :: q) (p ++ (z, d) :: q) := by
  refine ⟨fun y => by rw [cnt_app, cnt_app, cnt_cons, cnt_cons], fun n => ?_⟩
  rw [Bd_app, Bd_app, Bd_cons, Bd_cons]
  show Bd f q _ (if 0 < n z - cnt z p then f d0 (Bd f p n s) else Bd f p n s) = Bd f q _ (if 0 < n z - cnt z p then f d (Bd f p n s) else Bd f p n s)
  by_cases hz : 0 < n z - cnt z p
  · rw [if_pos hz, if_pos hz]
    have L := last_mid f s (by rw [cnt_cons, if_pos rfl, hq]) h n (setN (fun _ => 0) z 1) (setN_same _ _ _) (fun w hw => by
      by_cases e : w = z
      · subst e
        omega
      · rw [setN_ne _ _ e] at hw
        omega)
    generalize Bd f p n s = x at L ⊢
    rw [Bd_cons, Bd_cons, Bd_zero f q _ _ ?z1, Bd_zero f q _ _ ?z2] at L
    · rw [show (if 0 < setN (fun _ => 0) z 1 (z, d0).1 then f (z, d0).2 x else x) = f d0 x from if_pos (by rw [setN_same]; omega)] at L
      rw [show (if 0 < setN (setN (fun _ => 0) z 1) z 0 (z, d0).1 then f (z, d0).2 x else x) = x from if_neg (by rw [setN_same]; omega)] at L
      rw [L]
    · intro y hy
      unfold dec setN
      by_cases e : y = z
      · simp [e]
      · simp [e]
    · intro y hy
      unfold dec setN
      by_cases e : y = z
      · simp [e]
      · simp [e]
  · rw [if_neg hz, if_neg hz]
/-- a last deed exchanged with the one behind it -/
theorem exch_alike {p q : Hist} {z d y e : Nat} (hyz : y ≠ z) (hq : cnt z q = 0) (h : Last f s (p ++ (z, d) :: (y, e) :: q) z d) : Alike f s (p ++ (z, d) :: (y, e) :: q) (p ++ (y, e) :: (z, d) :: q) := by
  have hzy : z ≠ y := fun w => hyz w.symm
  refine ⟨fun w => by rw [cnt_app, cnt_app, cnt_cons, cnt_cons, cnt_cons, cnt_cons]; omega, fun n => ?_⟩
  rw [Bd_app, Bd_app, Bd_cons, Bd_cons, Bd_cons, Bd_cons]
  show Bd f q (dec (dec (fun y => n y - cnt y p) z) y) (if 0 < dec (fun y => n y - cnt y p) z y then f e (if 0 < n z - cnt z p then f d (Bd f p n s) else Bd f p n s) else (if 0 < n z - cnt z p then f d (Bd f p n s) else Bd f p n s)) =
    Bd f q (dec (dec (fun y => n y - cnt y p) y) z) (if 0 < dec (fun y => n y - cnt y p) y z then f d (if 0 < n y - cnt y p then f e (Bd f p n s) else Bd f p n s) else (if 0 < n y - cnt y p then f e (Bd f p n s) else Bd f p n s))
  rw [dec_comm, dec_ne _ hyz, dec_ne _ hzy]
  by_cases hz : 0 < n z - cnt z p
  · by_cases hy : 0 < n y - cnt y p
    · rw [if_pos hz, if_pos hy, if_pos hy, if_pos hz]
      have L := last_mid f s (by rw [cnt_cons, cnt_cons, if_pos rfl, if_neg hyz, hq]) h n (setN (setN (fun _ => 0) y 1) z 1) (setN_same _ _ _) (fun w hw => by
        by_cases e1 : w = z
        · subst e1
          omega
        · rw [setN_ne _ _ e1] at hw
          by_cases e2 : w = y
          · subst e2
            omega
          · rw [setN_ne _ _ e2] at hw
            omega)
      generalize Bd f p n s = x at L ⊢
      rw [Bd_cons, Bd_cons, Bd_cons, Bd_cons, Bd_zero f q _ _ ?z1, Bd_zero f q _ _ ?z2] at L
      · have g1 : 0 < setN (setN (fun _ => 0) y 1) z 1 (z, d).1 := by rw [setN_same]; omega
        have g2 : ¬ 0 < setN (setN (setN (fun _ => 0) y 1) z 1) z 0 (z, d).1 := by rw [setN_same]; omega
        have g3 : 0 < dec (setN (setN (fun _ => 0) y 1) z 1) (z, d).1 (y, e).1 := by
          show 0 < dec (setN (setN (fun _ => 0) y 1) z 1) z y
          rw [dec_ne _ hyz, setN_ne _ _ hyz, setN_same]
          omega
        have g4 : 0 < dec (setN (setN (setN (fun _ => 0) y 1) z 1) z 0) (z, d).1 (y, e).1 := by
          show 0 < dec (setN (setN (setN (fun _ => 0) y 1) z 1) z 0) z y
          rw [dec_ne _ hyz, setN_ne _ _ hyz, setN_ne _ _ hyz, setN_same]
          omega
        rw [if_pos g1, if_pos g3, if_neg g2, if_pos g4] at L
        have cm : f e (f d x) = f d (f e x) := L
        rw [cm]
      · intro w hw
        unfold dec setN
        by_cases e1 : w = z <;> by_cases e2 : w = y <;> simp [e1, e2, hyz, hzy]
      · intro w hw
        unfold dec setN
        by_cases e1 : w = z <;> by_cases e2 : w = y <;> simp [e1, e2, hyz, hzy]
    · rw [if_pos hz, if_neg hy, if_pos hz, if_neg hy]
  · by_cases hy : 0 < n y - cnt y p
    · rw [if_neg hz, if_pos hy, if_neg hz]
    · rw [if_neg hz, if_neg hy, if_neg hz]
/-- the last deeds alike, the rest is alike -/
theorem alike_init {g u : Hist} {l : Nat × Nat} (h : Alike f s (g ++ [l]) (u ++ [l])) : Alike f s g u := by
  have hc : ∀ y, cnt y g = cnt y u := fun y => by
    have := h.1 y
    rw [cnt_app, cnt_app] at this
    omega
  refine alike_of f s hc fun n hn => ?_
  have q := h.2 n
  rw [Bd_app, Bd_app, Bd_zero f [l] _ (Bd f g n s) (fun y _ => by have := hn y; omega), Bd_zero f [l] _ (Bd f u n s) (fun y _ => by have := hn y; rw [hc y] at this; omega)] at q
  exact q
theorem alike_app {g u : Hist} (h : Alike f s g u) (t : Hist) : Alike f s (g ++ t) (u ++ t) :=
  ⟨fun y => by rw [cnt_app, cnt_app, h.1 y], fun n => by
    rw [Bd_app, Bd_app, h.2 n]
    congr 1
    funext y
    rw [h.1 y]⟩
end
end Om
end

section
set_option linter.all false
set_option maxRecDepth 100000
set_option maxHeartbeats 4000000
set_option autoImplicit false
/-! What the program's data stand for. -/
namespace Ow
open PySem L2 OwL Om
structure Mach where
  s : Nat
  ds : List (List Nat)
def Mach.b (m : Mach) : Nat := (m.ds.getD 0 []).length
structure VM (m : Mach) : Prop where
  d1 : 1 ≤ m.ds.length
  d6 : m.ds.length ≤ 6
  b1 : 1 ≤ m.b
  b8 : m.b ≤ 8
  row : ∀ r ∈ m.ds, r.length = m.b ∧ ∀ x ∈ r, x < m.b
  s : m.s < m.b
def Mach.f (m : Mach) (d x : Nat) : Nat := (m.ds.getD d []).getD x 0
theorem getD_of {α : Type} {l : List α} {i : Nat} {x y : α} (h : l[i]? = some x) : l.getD i y = x := by
  rw [List.getD_eq_getElem?_getD, h]
  rfl
theorem VM.f_at {m : Mach} (v : VM m) {d x : Nat} (hd : d < m.ds.length) (hx : x < m.b) : ∃ r, m.ds[d]? = some r ∧ r[x]? = some (m.f d x) ∧ m.f d x < m.b ∧ r ∈ m.ds := by
  have hr : m.ds[d] ∈ m.ds := List.getElem_mem hd
  obtain ⟨h1, h2⟩ := v.row _ hr
  have hx' : x < m.ds[d].length := by rw [h1]; exact hx
  have e : m.f d x = m.ds[d][x] := by
    unfold Mach.f
    rw [getD_of (List.getElem?_eq_getElem hd), getD_of (List.getElem?_eq_getElem hx')]
  refine ⟨m.ds[d], List.getElem?_eq_getElem hd, ?_, ?_, hr⟩
  · rw [e]
    exact List.getElem?_eq_getElem hx'
  · rw [e]
    exact h2 _ (List.getElem_mem hx')
def eN (n : Nat) : PyData := .int n
def eNs (ns : List Nat) : PyData := .tuple (ns.map eN)
def sq (b : Bool) (ds : List PyData) : PyData := if b = true then .list ds else .tuple ds
def eL (l : Nat × Nat) : PyData := .tuple [eN l.1, eN l.2]
def eH (g : Hist) : PyData := .tuple (g.map eL)
def eLb (b : Bool) (l : Nat × Nat) : PyData := sq b [eN l.1, eN l.2]
def eHb (b : Bool) (g : Hist) : PyData := sq b (g.map (eLb b))
def eMs (m : Mach) : PyData := .tuple (m.ds.map eNs)
def eM (m : Mach) : PyData := .tuple [eN m.s, eMs m]
def eMb (b : Bool) (m : Mach) : PyData := sq b [eN m.s, eMs m]
theorem eHb_f (g : Hist) : eHb false g = eH g := rfl
theorem eMb_f (m : Mach) : eMb false m = eM m := rfl
def VH (h n : Nat) (g : Hist) : Prop := g.length ≤ 10 ∧ ∀ l ∈ g, l.1 < h ∧ l.2 < n
def VHd (h : Nat) : Prop := 2 ≤ h ∧ h ≤ 4
def counts (h : Nat) (g : Hist) : List Nat := (List.range h).map fun z => cnt z g
/-- all vectors up to some counts, ascending -/
def vstep (F : List (List Nat)) (k : Nat) : List (List Nat) := F.flatMap fun v => (List.range (k + 1)).map fun x => v ++ [x]
def vecs (cs : List Nat) : List (List Nat) := cs.foldl vstep [[]]
def At (v : List Nat) (z : Nat) : Nat := v.getD z 0
def eT (cs : List Nat) (b : List Nat → Nat) : PyData := .tuple [eNs cs, .tuple ((vecs cs).map fun v => eN (b v))]
def tab (m : Mach) (g : Hist) (v : List Nat) : Nat := Bd m.f g (At v) m.s
def eTg (m : Mach) (h : Nat) (g : Hist) : PyData := eT (counts h g) (tab m g)
theorem imm_N (n : Nat) : imm (eN n) = true := rfl
theorem imms_N (ns : List Nat) : imms (ns.map eN) = true := imms_map fun _ _ => rfl
theorem imm_Ns (ns : List Nat) : imm (eNs ns) = true := imms_N ns
theorem imm_L (l : Nat × Nat) : imm (eL l) = true := rfl
theorem imms_L (g : Hist) : imms (g.map eL) = true := imms_map fun l _ => imm_L l
theorem imm_H (g : Hist) : imm (eH g) = true := imms_L g
theorem imm_Ms (m : Mach) : imm (eMs m) = true := imms_map fun l _ => imm_Ns l
theorem imms_M (m : Mach) : imms [eN m.s, eMs m] = true := imms_cons.mpr ⟨rfl, imms_cons.mpr ⟨imm_Ms m, rfl⟩⟩
theorem imm_M (m : Mach) : imm (eM m) = true := imms_M m
theorem imms_T (cs : List Nat) (b : List Nat → Nat) : imms [eNs cs, .tuple ((vecs cs).map fun v => eN (b v))] = true := imms_cons.mpr ⟨imm_Ns cs, imms_cons.mpr ⟨imms_map fun _ _ => rfl, rfl⟩⟩
theorem imm_T (cs : List Nat) (b : List Nat → Nat) : imm (eT cs b) = true := imms_T cs b
theorem atI_nat {ds : List PyData} {i : Nat} {d : PyData} (h : ds[i]? = some d) : atI ds (i : Int) = some d := by
  have hl : i < ds.length := (List.getElem?_eq_some_iff.mp h).1
  unfold atI ixN
  rw [if_pos (Int.natCast_nonneg i), if_pos (by omega)]
  exact h
theorem atI_map {α : Type} {f : α → PyData} {l : List α} {i : Nat} {a : α} (h : l[i]? = some a) : atI (l.map f) (i : Int) = some (f a) := atI_nat (by rw [List.getElem?_map, h]; rfl)
theorem atI_last {ds : List PyData} {d : PyData} : atI (ds ++ [d]) (-1) = some d := by
  unfold atI ixN
  rw [List.length_append, if_neg (by decide), if_pos (by simp; omega)]
  show (ds ++ [d])[(-1 + ((ds.length + [d].length : Nat) : Int)).toNat]? = some d
  rw [show (-1 + ((ds.length + [d].length : Nat) : Int)).toNat = ds.length by simp; omega]
  simp
end Ow
namespace Ow
open PySem L2 OwL Om
theorem bool_t {b : Bool} (h : b = true) : PyData.bool b = .bool true := congrArg PyData.bool h
theorem bool_f {b : Bool} (h : b = false) : PyData.bool b = .bool false := congrArg PyData.bool h
section
variable {X : Cx}
/-- all items, untested -/
theorem cmp_all {scope : Scope} {tg elt : Expr} {vs : List Nat} {Sw : List Sl} {β : Type} (item : β → Itm) (js : List Nat) (S1 : β → List Sl) (f : β → PyData) (hj : ∀ j ∈ js, j ∈ vs) (l : List β) (h : ∀ b ∈ l, (∀ s H C cl fp, GTo (X.blk s H scope (compEnvC scope cl C X.env) fp) tg (item b) js Sw (S1 b)) ∧
    imm (f b) = true ∧ ∀ s H C cl fp, EvD (X.blk s H scope (compEnvC scope cl C X.env) fp) elt (S1 b) (f b)) : CmpD X scope tg [] elt vs Sw (l.map item) (l.map f) := by
  have q := cmp_map (X := X) (scope := scope) (tg := tg) (elt := elt) (ifs := []) (vs := vs) (Sw := Sw) item js S1 (fun _ => true) f hj l fun b hb => ⟨(h b hb).1, fun s H C cl fp => ets_nil, fun _ => (h b hb).2⟩
  rw [List.filter_eq_self.mpr fun _ _ => rfl] at q
  exact q
theorem dats_map {β : Type} (f : β → PyData) (l : List β) : dats (l.map f) = l.map fun x => .one (.dat (f x)) := by
  unfold dats
  rw [List.map_map]
  rfl
variable {S : List Sl} {pos spos : Pos} {scope : Scope} {tg elt iter : Expr} {ifs : List Expr} {items : List Itm} {out : List PyData} {β : Type}
/-- [f x for x in l] -/
theorem ev_lca (c : Ctx X) (own : List (Str × Nat)) (ok : blkC X.N X.env.scope scope own = true) (l : List β) (item : β → Itm) (js : List Nat) (S1 : β → List Sl) (f : β → PyData) {S0 : List Sl} (hi : ItD X tg iter S S0 items) (he : items = l.map item) (ho : out = l.map f) (hz : l.length ≤ 100000) (hj : ∀ j ∈ js, j ∈ own.map (·.2))
    (hg : ∀ b ∈ l, ∀ s H C cl fp, GTo (X.blk s H scope (compEnvC scope cl C X.env) fp) tg (item b) js (wipeS S (own.map (·.2))) (S1 b)) (hb : ∀ b ∈ l, imm (f b) = true ∧ ∀ s H C cl fp, EvD (X.blk s H scope (compEnvC scope cl C X.env) fp) elt (S1 b) (f b)) (hs : ∀ x, foldedSetIterable iter X.env x = pure x := by intro _; rfl) (hw : ∀ A B H σ, EnvOk A B H σ S → EnvOk A B H σ S0 := by first | exact fun _ _ _ _ E => E | exact fun _ _ _ _ E => E.forget') : EvN X (.ListComp elt [⟨tg, iter, [], 0⟩] scope pos) S out := by
  subst he ho
  exact ev_lc c own ok hi (cmp_all item js S1 f hj l fun b h => ⟨hg b h, hb b h⟩) (by rw [List.length_map]; exact hz) hs hw
/-- [f x for x in l if p x] -/
theorem ev_lci (c : Ctx X) (own : List (Str × Nat)) (ok : blkC X.N X.env.scope scope own = true) (l : List β) (item : β → Itm) (js : List Nat) (S1 : β → List Sl) (p : β → Bool) (f : β → PyData) {S0 : List Sl} (hi : ItD X tg iter S S0 items) (he : items = l.map item) (ho : out = (l.filter p).map f) (hz : l.length ≤ 100000) (hj : ∀ j ∈ js, j ∈ own.map (·.2))
    (hg : ∀ b ∈ l, ∀ s H C cl fp, GTo (X.blk s H scope (compEnvC scope cl C X.env) fp) tg (item b) js (wipeS S (own.map (·.2))) (S1 b)) (ht : ∀ b ∈ l, ∀ s H C cl fp, EvTs (X.blk s H scope (compEnvC scope cl C X.env) fp) ifs (S1 b) (p b)) (hb : ∀ b ∈ l, p b = true → imm (f b) = true ∧ ∀ s H C cl fp, EvD (X.blk s H scope (compEnvC scope cl C X.env) fp) elt (S1 b) (f b)) (hs : ∀ x, foldedSetIterable iter X.env x = pure x := by intro _; rfl) (hw : ∀ A B H σ, EnvOk A B H σ S → EnvOk A B H σ S0 := by first | exact fun _ _ _ _ E => E | exact fun _ _ _ _ E => E.forget') : EvN X (.ListComp elt [⟨tg, iter, ifs, 0⟩] scope pos) S out := by
  subst he ho
  exact ev_lc c own ok hi (cmp_map item js S1 p f hj l fun b h => ⟨hg b h, ht b h, hb b h⟩) (by rw [List.length_map]; exact hz) hs hw
/-- y = [f x for x in l] -/
theorem run_lca {P : Pst} (i : Nat) {y : Str} {py : Pos} (c : Ctx X) (own : List (Str × Nat)) (ok : blkC X.N X.env.scope scope own = true) (l : List β) (item : β → Itm) (js : List Nat) (S1 : β → List Sl) (f : β → PyData) {S0 : List Sl} (hi : ItD X tg iter S S0 items) (he : items = l.map item) (hz : l.length ≤ 100000) (hj : ∀ j ∈ js, j ∈ own.map (·.2))
    (hg : ∀ b ∈ l, ∀ s H C cl fp, GTo (X.blk s H scope (compEnvC scope cl C X.env) fp) tg (item b) js (wipeS S (own.map (·.2))) (S1 b)) (hb : ∀ b ∈ l, imm (f b) = true ∧ ∀ s H C cl fp, EvD (X.blk s H scope (compEnvC scope cl C X.env) fp) elt (S1 b) (f b)) (hn : P.nx (S.set i (Sl.lst (l.map f)))) (hy : X.N[i]? = some y := by rfl) (hyl : X.env.scope.names.lookup y = some .local := by rfl) (hsw : swapsWith (.ListComp elt [⟨tg, iter, [], 0⟩] scope pos) (some (.Name y py)) spos.line X.env = pure true := by exact sw_true rfl rfl rfl (by decide +kernel))
    (hs : ∀ x, foldedSetIterable iter X.env x = pure x := by intro _; rfl) (hw : ∀ A B H σ, EnvOk A B H σ S → EnvOk A B H σ S0 := by first | exact fun _ _ _ _ E => E | exact fun _ _ _ _ E => E.forget') : Run1 X (.Assign [.Name y py] (.ListComp elt [⟨tg, iter, [], 0⟩] scope pos) spos) S P := by
  subst he
  exact run_setLc i c own ok hi (cmp_all item js S1 f hj l fun b h => ⟨hg b h, hb b h⟩) (by rw [List.length_map]; exact hz) hn hy hyl hsw hs hw
theorem run_lci {P : Pst} (i : Nat) {y : Str} {py : Pos} (c : Ctx X) (own : List (Str × Nat)) (ok : blkC X.N X.env.scope scope own = true) (l : List β) (item : β → Itm) (js : List Nat) (S1 : β → List Sl) (p : β → Bool) (f : β → PyData) {S0 : List Sl} (hi : ItD X tg iter S S0 items) (he : items = l.map item) (hz : l.length ≤ 100000) (hj : ∀ j ∈ js, j ∈ own.map (·.2))
    (hg : ∀ b ∈ l, ∀ s H C cl fp, GTo (X.blk s H scope (compEnvC scope cl C X.env) fp) tg (item b) js (wipeS S (own.map (·.2))) (S1 b)) (ht : ∀ b ∈ l, ∀ s H C cl fp, EvTs (X.blk s H scope (compEnvC scope cl C X.env) fp) ifs (S1 b) (p b)) (hb : ∀ b ∈ l, p b = true → imm (f b) = true ∧ ∀ s H C cl fp, EvD (X.blk s H scope (compEnvC scope cl C X.env) fp) elt (S1 b) (f b)) (hn : P.nx (S.set i (Sl.lst ((l.filter p).map f)))) (hy : X.N[i]? = some y := by rfl) (hyl : X.env.scope.names.lookup y = some .local := by rfl) (hsw : swapsWith (.ListComp elt [⟨tg, iter, ifs, 0⟩] scope pos) (some (.Name y py)) spos.line X.env = pure true := by exact sw_true rfl rfl rfl (by decide +kernel))
    (hs : ∀ x, foldedSetIterable iter X.env x = pure x := by intro _; rfl) (hw : ∀ A B H σ, EnvOk A B H σ S → EnvOk A B H σ S0 := by first | exact fun _ _ _ _ E => E | exact fun _ _ _ _ E => E.forget') : Run1 X (.Assign [.Name y py] (.ListComp elt [⟨tg, iter, ifs, 0⟩] scope pos) spos) S P := by
  subst he
  exact run_setLc i c own ok hi (cmp_map item js S1 p f hj l fun b h => ⟨hg b h, ht b h, hb b h⟩) (by rw [List.length_map]; exact hz) hn hy hyl hsw hs hw
end
end Ow
namespace Ow
open PySem L2 OwL Om
theorem eqv_int (i j : Int) : PyData.eqv (.int i) (.int j) = decide (i = j) := by unfold PyData.eqv; rfl
theorem sq_or (b : Bool) (ds : List PyData) : sq b ds = .list ds ∨ sq b ds = .tuple ds := by
  cases b
  · exact .inr rfl
  · exact .inl rfl
/-- places and items -/
def en {α : Type} (l : List α) : List (Nat × α) := l.mapIdx fun i x => (i, x)
theorem en_map {α β γ : Type} (F : Nat → β → γ) (f : α → β) (l : List α) : (l.map f).mapIdx F = (en l).map fun x => F x.1 (f x.2) := by
  apply List.ext_getElem?
  intro i
  unfold en
  rw [List.getElem?_mapIdx, List.getElem?_map, List.getElem?_map, List.getElem?_mapIdx]
  cases l[i]? <;> rfl
theorem en_get {α : Type} {l : List α} {x : Nat × α} (h : x ∈ en l) : l[x.1]? = some x.2 := by
  obtain ⟨i, hi⟩ := List.mem_iff_getElem?.mp h
  unfold en at hi
  rw [List.getElem?_mapIdx] at hi
  cases q : l[i]? with
  | none =>
    rw [q] at hi
    cases hi
  | some y =>
    rw [q] at hi
    have e : (i, y) = x := Option.some.inj hi
    rw [← e]
    exact q
theorem en_mem {α : Type} {l : List α} {x : Nat × α} (h : x ∈ en l) : x.2 ∈ l := List.mem_of_getElem? (en_get h)
theorem en_len {α : Type} (l : List α) : (en l).length = l.length := List.length_mapIdx
section
variable {X : Cx} {S : List Sl} {a b e : Expr} {ds : List PyData} {d : PyData} {pos p : Pos}
theorem ev_len (c : Ctx X) {q : Bool} (h : EvD X e S (sq q ds)) (hg : Gl X "len" := by rfl) (he : starEach [e] X.env = (false, eval e X.env) :: starEach [] X.env := by rfl) (hpl : (backTo pos (starEach [] X.env)).any (·.1) = false := by rfl) : EvD X (.Call (.Name "len" p) [e] [] pos) S (.int ds.length) := by
  cases q with
  | true => exact ev_cb ca_lenL c.len (by decide +kernel) (eds_one h he) hg (by decide) (by decide) he hpl
  | false => exact ev_cb ca_lenT c.len (by decide +kernel) (eds_one h he) hg (by decide) (by decide) he hpl
theorem ev_ixS {q : Bool} {i : Int} (ha : EvD X a S (sq q ds)) (hb : EvD X b S (.int i)) (h : atI ds i = some d) (hs : PlainIx b := by intro _ _; rfl) : EvD X (.Subscript a b pos) S d := by
  cases q with
  | true => exact ev_ixL ha hb h hs
  | false => exact ev_ixT ha hb h hs
theorem ev_tupS (c : Ctx X) {q : Bool} (h : EvD X e S (sq q ds)) (hg : Gl X "tuple" := by rfl) (he : starEach [e] X.env = (false, eval e X.env) :: starEach [] X.env := by rfl) (hpl : (backTo pos (starEach [] X.env)).any (·.1) = false := by rfl) : EvD X (.Call (.Name "tuple" p) [e] [] pos) S (.tuple ds) := by
  cases q with
  | true => exact ev_ct ca_tupL c.tuple (by decide +kernel) (eds_one h he) hg (by decide) (by decide) he hpl
  | false => exact ev_ct ca_tupT c.tuple (by decide +kernel) (eds_one h he) hg (by decide) (by decide) he hpl
end
end Ow
namespace Ow
open PySem L2 OwL Om
section
variable {X : Cx}
theorem od_eqi (c : Ctx X) {i j : Int} : OpD X (compareOp .Eq) (.int i) (.int j) (.bool (decide (i = j))) := eqv_int i j ▸ od_eq c rfl rfl
theorem od_nei (c : Ctx X) {i j : Int} : OpD X (compareOp .NotEq) (.int i) (.int j) (.bool (!decide (i = j))) := eqv_int i j ▸ od_ne c rfl rfl
end
end Ow
namespace Ow
open PySem L2 OwL Om
/-- data of some depth that can be laid -/
def Shp (n : Nat) (d : PyData) : Prop := d.canLay0 = true ∧ d.depth ≤ n
theorem Shp.ok {n : Nat} {d : PyData} (h : Shp n d) (hn : n ≤ 64) : SeqAt.shaped d = true := Bool.and_eq_true_iff.mpr ⟨h.1, decide_eq_true (Nat.le_trans h.2 hn)⟩
theorem Shp.mono {n k : Nat} {d : PyData} (h : Shp n d) (hn : n ≤ k) : Shp k d := ⟨h.1, Nat.le_trans h.2 hn⟩
theorem shp_int (n : Nat) (i : Int) : Shp n (.int i) := ⟨by simp only [PyData.canLay0], by simp only [PyData.depth]; exact Nat.zero_le _⟩
theorem shp_str (n : Nat) {x : Str} (h : PyData.strOk x = true) : Shp n (.str x) := ⟨by simp only [PyData.canLay0]; exact h, by simp only [PyData.depth]; exact Nat.zero_le _⟩
theorem shp_all {n : Nat} : ∀ {ds : List PyData}, (∀ d ∈ ds, Shp n d) → PyData.canLayAll0 ds = true ∧ PyData.depthAll ds ≤ n
  | [], _ => ⟨by simp only [PyData.canLayAll0], by simp only [PyData.depthAll]; exact Nat.zero_le _⟩
  | d :: ds, h => by
    obtain ⟨h1, h2⟩ := shp_all (ds := ds) fun x hx => h x (List.mem_cons_of_mem _ hx)
    have h0 := h d List.mem_cons_self
    simp only [PyData.canLayAll0, PyData.depthAll, h0.1, h1, Bool.and_self, true_and]
    exact Nat.max_le.mpr ⟨h0.2, h2⟩
theorem shp_tup {n : Nat} {ds : List PyData} (h : ∀ d ∈ ds, Shp n d) : Shp (n + 1) (.tuple ds) := by
  obtain ⟨h1, h2⟩ := shp_all h
  exact ⟨by simp only [PyData.canLay0, h1], by simp only [PyData.depth]; omega⟩
theorem shp_lst {n : Nat} {ds : List PyData} (h : ∀ d ∈ ds, Shp n d) : Shp (n + 1) (.list ds) := by
  obtain ⟨h1, h2⟩ := shp_all h
  exact ⟨by simp only [PyData.canLay0, h1], by simp only [PyData.depth]; omega⟩
theorem shp_map {α : Type} {n : Nat} {f : α → PyData} {l : List α} (h : ∀ a ∈ l, Shp n (f a)) : Shp (n + 1) (.tuple (l.map f)) := shp_tup fun d hd => by
  obtain ⟨a, ha, rfl⟩ := List.mem_map.mp hd
  exact h a ha
theorem shp_lmap {α : Type} {n : Nat} {f : α → PyData} {l : List α} (h : ∀ a ∈ l, Shp n (f a)) : Shp (n + 1) (.list (l.map f)) := shp_lst fun d hd => by
  obtain ⟨a, ha, rfl⟩ := List.mem_map.mp hd
  exact h a ha
theorem shp_N (n k : Nat) : Shp k (eN n) := shp_int k n
theorem shp_Ns (ns : List Nat) : Shp 1 (eNs ns) := shp_map fun n _ => shp_N n 0
theorem shp_L (l : Nat × Nat) : Shp 1 (eL l) := shp_map (l := [l.1, l.2]) fun n _ => shp_N n 0
theorem shp_H (g : Hist) : Shp 2 (eH g) := shp_map fun l _ => shp_L l
theorem shp_T (cs : List Nat) (b : List Nat → Nat) : Shp 2 (eT cs b) := shp_tup fun d hd => by
  rcases List.mem_cons.mp hd with rfl | hd
  · exact shp_Ns cs
  · cases List.mem_singleton.mp hd
    exact shp_map fun v _ => shp_N _ 0
theorem eqv_tup (xs ys : List PyData) : PyData.eqv (.tuple xs) (.tuple ys) = PyData.eqvAll xs ys := by simp only [PyData.eqv]
theorem eqvAll_nil : PyData.eqvAll [] [] = true := by simp only [PyData.eqvAll]
theorem eqvAll_cons (x y : PyData) (xs ys : List PyData) : PyData.eqvAll (x :: xs) (y :: ys) = (PyData.eqv x y && PyData.eqvAll xs ys) := by simp only [PyData.eqvAll]
theorem eqvAll_map {α : Type} [DecidableEq α] {f : α → PyData} (h : ∀ a b, PyData.eqv (f a) (f b) = decide (a = b)) : ∀ l l' : List α, PyData.eqvAll (l.map f) (l'.map f) = decide (l = l')
  | [], [] => by simp [PyData.eqvAll]
  | [], b :: l' => by simp [PyData.eqvAll]
  | a :: l, [] => by simp [PyData.eqvAll]
  | a :: l, b :: l' => by
    rw [List.map_cons, List.map_cons, eqvAll_cons, h, eqvAll_map h l l', ← Bool.decide_and]
    exact decide_eq_decide.mpr (by rw [List.cons.injEq])
theorem eqv_N (a b : Nat) : PyData.eqv (eN a) (eN b) = decide (a = b) := by
  show PyData.eqv (.int a) (.int b) = _
  rw [eqv_int]
  exact decide_eq_decide.mpr (by omega)
theorem eqv_Ns (a b : List Nat) : PyData.eqv (eNs a) (eNs b) = decide (a = b) := by
  unfold eNs
  rw [eqv_tup, eqvAll_map eqv_N]
theorem eqv_L (a b : Nat × Nat) : PyData.eqv (eL a) (eL b) = decide (a = b) := by
  unfold eL
  rw [eqv_tup, eqvAll_cons, eqvAll_cons, eqvAll_nil, eqv_N, eqv_N, Bool.and_true, ← Bool.decide_and]
  exact decide_eq_decide.mpr (by rw [Prod.ext_iff])
theorem eqv_H (a b : Hist) : PyData.eqv (eH a) (eH b) = decide (a = b) := by
  unfold eH
  rw [eqv_tup, eqvAll_map eqv_L]
/-- tables with the same counts -/
theorem eqv_T (cs cs' : List Nat) (b b' : List Nat → Nat) : PyData.eqv (eT cs b) (eT cs' b') = decide (cs = cs' ∧ (vecs cs).map b = (vecs cs').map b') := by
  unfold eT
  have e : ∀ (l : List (List Nat)) (f : List Nat → Nat), (l.map fun v => eN (f v)) = (l.map f).map eN := fun l f => by rw [List.map_map]; rfl
  rw [eqv_tup, eqvAll_cons, eqvAll_cons, eqvAll_nil, eqv_Ns, Bool.and_true, e, e, eqv_tup, eqvAll_map eqv_N, ← Bool.decide_and]
theorem eqv_str (x y : Str) : PyData.eqv (.str x) (.str y) = (x == y) := by simp only [PyData.eqv]
section
variable {X : Cx}
theorem od_eqS (c : Ctx X) {x y : Str} (hx : PyData.strOk x = true := by decide +kernel) (hy : PyData.strOk y = true := by decide +kernel) : OpD X (compareOp .Eq) (.str x) (.str y) (.bool (x == y)) := eqv_str x y ▸ od_eq c ((shp_str 0 hx).ok (by decide)) ((shp_str 0 hy).ok (by decide))
theorem od_neS (c : Ctx X) {x y : Str} (hx : PyData.strOk x = true := by decide +kernel) (hy : PyData.strOk y = true := by decide +kernel) : OpD X (compareOp .NotEq) (.str x) (.str y) (.bool (!(x == y))) := eqv_str x y ▸ od_ne c ((shp_str 0 hx).ok (by decide)) ((shp_str 0 hy).ok (by decide))
theorem od_eqB (c : Ctx X) {x y : PyData} {n k : Nat} {b : Bool} (hx : Shp n x) (hy : Shp k y) (he : PyData.eqv x y = b) (hn : n ≤ 64 := by decide) (hk : k ≤ 64 := by decide) : OpD X (compareOp .Eq) x y (.bool b) := he ▸ od_eq c (hx.ok hn) (hy.ok hk)
theorem od_neB (c : Ctx X) {x y : PyData} {n k : Nat} {b : Bool} (hx : Shp n x) (hy : Shp k y) (he : PyData.eqv x y = b) (hn : n ≤ 64 := by decide) (hk : k ≤ 64 := by decide) : OpD X (compareOp .NotEq) x y (.bool (!b)) := he ▸ od_ne c (hx.ok hn) (hy.ok hk)
end
end Ow
end

section
set_option linter.all false
set_option maxRecDepth 100000
set_option maxHeartbeats 4000000
set_option autoImplicit false
/-! Comprehensions of two clauses, the inner a range; in-place arithmetic; the box of draws. -/
namespace Ow
open PySem L2 OwL Om
section
variable {X : Cx} {S : List Sl} {pos pos1 spos : Pos} {scope : Scope} {tg tg1 elt iter e1 : Expr} {β : Type}
theorem lc2_read {p1 : Pos} {vs vs1 : List Nat} (c : Ctx X) (l : List β) (item : β → Itm) (js js1 : List Nat) (S1 : β → List Sl) (k : β → Nat) (S2 : β → Nat → List Sl) (f : β → Nat → PyData) {S0 : List Sl} (hi : ItD X tg iter S S0 (l.map item)) (hw : ∀ A B H σ, EnvOk A B H σ S → EnvOk A B H σ S0) (hno : ∀ b ∈ l, ∀ (j : Nat) (ds : List PyData), (S1 b)[j]? ≠ some (Sl.lst ds)) (hj : ∀ j ∈ js, j ∈ vs) (hj1 : ∀ j ∈ js1, j ∈ vs1)
    (hg : ∀ b ∈ l, ∀ s H C cl fp, GTo (X.blk s H scope (compEnvC scope cl C X.env) fp) tg (item b) js (wipeS S vs) (S1 b)) (hk : ∀ b ∈ l, ∀ s H C cl fp, EvD (X.blk s H scope (compEnvC scope cl C X.env) fp) e1 (S1 b) (.int (k b))) (hkb : ∀ b ∈ l, k b < 100000)
    (hg1 : ∀ b ∈ l, ∀ j, j < k b → ∀ s H C cl fp, GTo (X.blk s H scope (compEnvC scope cl C X.env) fp) tg1 (.one (.dat (eN j))) js1 (wipeS (S1 b) vs1) (S2 b j))
    (hb : ∀ b ∈ l, ∀ j, j < k b → imm (f b j) = true ∧ ∀ s H C cl fp, EvD (X.blk s H scope (compEnvC scope cl C X.env) fp) elt (S2 b j) (f b j)) (hz : (l.flatMap fun b => (List.range (k b)).map (f b)).length < 100000)
    (hgr2 : ∀ s H C cl fp, Gl (X.blk s H scope (compEnvC scope cl C X.env) fp) "range" := by intros; rfl) (hs1 : ∀ s H C cl fp, starEach [e1] (X.blk s H scope (compEnvC scope cl C X.env) fp).env = [(false, eval e1 (X.blk s H scope (compEnvC scope cl C X.env) fp).env)] := by intros; rfl) (hs2 : ∀ s H C cl fp, starEach [e1] (X.blk s H scope (compEnvC scope cl C X.env) fp).env = (false, eval e1 (X.blk s H scope (compEnvC scope cl C X.env) fp).env) :: starEach [] (X.blk s H scope (compEnvC scope cl C X.env) fp).env := by intros; rfl)
    {A B H : Hp} {σ : L2.St} (E : EnvOk A B H σ S) (Q : VK) (q : ∀ p xs H', H p = none → Ex H H' → H' p = some (.lst xs) → Dvs H' xs (l.flatMap fun b => (List.range (k b)).map (f b)) → Q (.ref p) H') :
    tLc2 (WI X tg iter) (fun v σ H Q => ∀ s H' C cl fp, WG (X.blk s H' scope (compEnvC scope cl C X.env) fp) tg v σ H Q) (fun σ H Q => ∀ s H' C cl fp, WTs (X.blk s H' scope (compEnvC scope cl C X.env) fp) [] σ H Q)
      (fun σ H R => ∀ s H' C cl fp, WI (X.blk s H' scope (compEnvC scope cl C X.env) fp) tg1 (.Call (.Name "range" p1) [e1] [] pos1) σ H R) (fun v σ H Q => ∀ s H' C cl fp, WG (X.blk s H' scope (compEnvC scope cl C X.env) fp) tg1 v σ H Q) (fun σ H Q => ∀ s H' C cl fp, WTs (X.blk s H' scope (compEnvC scope cl C X.env) fp) [] σ H Q)
      (fun σ H Q => ∀ s H' C cl fp, WE (X.blk s H' scope (compEnvC scope cl C X.env) fp) elt σ H Q) vs vs1 σ H Q := by
  have imy : ∀ l' : List β, (∀ b ∈ l', b ∈ l) → imms (l'.flatMap fun b => (List.range (k b)).map (f b)) = true := fun l' hl' => imms_iff.mpr fun d hd => by
    obtain ⟨b, hb1, hd⟩ := List.mem_flatMap.mp hd
    obtain ⟨j, hj, rfl⟩ := List.mem_map.mp hd
    exact (hb b (hl' b hb1) j (List.mem_range.mp hj)).1
  refine hi A B H σ E _ fun J H1 e1 hJ Dl nD => ?_
  obtain ⟨G, bg, EG, hG⟩ := (hw _ _ _ _ (E.mono e1)).grow
  have IO := hJ G EG.ax hG
  refine ⟨fun i m H2 => m = l.length - i ∧ i ≤ l.length ∧ ∃ us, Ex H1 H2 ∧ H2 Dl = some (.lst us) ∧ Dvs H2 us ((l.take i).flatMap fun b => (List.range (k b)).map (f b)),
    ⟨_, rfl, Nat.zero_le _, [], Ex.new nD, upd_same, .nil⟩, ?_⟩
  rintro i m H2 ⟨rfl, hle, us, e2, hD, hus⟩
  have g2 : Ex G H2 := EG.ex.trans e2
  by_cases hlt : i < l.length
  · have hlt' : i < (l.map item).length := by rw [List.length_map]; exact hlt
    have hbm : l[i] ∈ l := List.getElem_mem hlt
    refine .inr ⟨IO.go i H2 g2 hlt', fun H3 => ∃ us, Ex H1 H3 ∧ H3 Dl = some (.lst us) ∧ Dvs H3 us ((l.take (i + 1)).flatMap fun b => (List.range (k b)).map (f b)), fun H3 ⟨us, q1, q2, q3⟩ => ⟨l.length - (i + 1), by omega, rfl, hlt, us, q1, q2, q3⟩, fun x H3 hy => ?_⟩
    obtain ⟨e3, it, hit, iv⟩ := IO.yld i H2 x H3 g2 hy hlt'
    have eit : item l[i] = it := by
      rw [List.getElem?_map, List.getElem?_eq_getElem hlt] at hit
      exact Option.some.inj hit
    subst eit
    have etk : (l.take (i + 1)).flatMap (fun b => (List.range (k b)).map (f b)) = (l.take i).flatMap (fun b => (List.range (k b)).map (f b)) ++ (List.range (k l[i])).map (f l[i]) := by
      rw [List.take_succ_eq_append_getElem hlt, List.flatMap_append]
      simp
    have hlen : ((l.take (i + 1)).flatMap fun b => (List.range (k b)).map (f b)).length < 100000 := by
      have e : l = l.take (i + 1) ++ l.drop (i + 1) := (List.take_append_drop _ _).symm
      have : (l.flatMap fun b => (List.range (k b)).map (f b)).length = ((l.take (i + 1)).flatMap fun b => (List.range (k b)).map (f b)).length + ((l.drop (i + 1)).flatMap fun b => (List.range (k b)).map (f b)).length := by
        rw [← List.length_append, ← List.flatMap_append, ← e]
      omega
    rw [etk] at hlen ⊢
    have im0 := imy (l.take i) fun b h => List.mem_of_mem_take h
    generalize (l.take i).flatMap (fun b => (List.range (k b)).map (f b)) = done at hus hlen im0 ⊢
    generalize hbe : l[i] = b at hbm iv hlen ⊢
    have E3 : EnvOk A B H3 (wipe σ vs) (wipeS S vs) := (E.wiped vs).mono ((e1.trans e2).trans e3)
    intro s H' C cl fp
    refine hg b hbm s H' C cl fp A B H3 (wipe σ vs) x E3 iv _ fun σ4 E4 w4 => ⟨(w4 vs hj).trans wipe_idem, ?_⟩
    intro s H' C cl fp
    refine ets_nil A B H3 σ4 E4 _ fun H5 e5 => ?_
    rw [if_pos rfl]
    intro s H' C cl fp
    refine ⟨_, pi_range1 (hgr2 s H' C cl fp) c.range (pa_cons we pa_nil (hs2 s H' C cl fp)) (hs1 s H' C cl fp), hk b hbm s H' C cl fp A B H5 σ4 (E4.mono e5) _ fun v H6 e6 r6 => ⟨k b, by rw [r6.toInt], by omega, by have := hkb b hbm; omega, ?_⟩⟩
    have hno1 := hno b hbm
    have t36 : Tx H3 H6 := (e5.trans e6).tx
    refine ⟨fun j m H => m = k b - j ∧ j ≤ k b ∧ ∃ us, Tx H3 H ∧ Ex H1 H ∧ H Dl = some (.lst us) ∧ Dvs H us (done ++ (List.range j).map (f b)),
      ⟨_, rfl, Nat.zero_le _, us, t36, ((e2.trans e3).trans e5).trans e6, e6 _ _ (e5 _ _ (e3 _ _ hD)), by rw [List.range_zero, List.map_nil, List.append_nil]; exact hus.ex ((e3.trans e5).trans e6)⟩, ?_⟩
    rintro j m H7 ⟨rfl, hle1, us, t7, e7, hD7, hus7⟩
    by_cases hlt1 : j < k b
    · refine .inr ⟨hlt1, fun H => ∃ us, Tx H3 H ∧ Ex H1 H ∧ H Dl = some (.lst us) ∧ Dvs H us (done ++ (List.range (j + 1)).map (f b)), fun H8 ⟨us, q0, q1, q2, q3⟩ => ⟨k b - (j + 1), by omega, rfl, hlt1, us, q0, q1, q2, q3⟩, fun x H8 hy1 => ?_⟩
      obtain ⟨rfl, rfl⟩ := hy1
      have E7 : EnvOk A B H8 (wipe σ4 vs1) (wipeS (S1 b) vs1) := by
        refine EnvOk.wiped ?_ vs1
        refine ⟨E4.ax, E.ex.trans (e1.trans e7), E4.len, fun i o s' h1 h2 => ?_, E4.dis⟩
        have q := E4.sl i o s' h1 h2
        cases s' with
        | any => trivial
        | fix u => exact q
        | obj C0 fsd0 => exact q
        | pre F0 => exact q
        | arg d => exact q
        | dat d =>
          obtain ⟨a, u, b', r⟩ := q
          exact ⟨a, u, b', r.tx t7 a⟩
        | lst ds => exact absurd h2 (hno1 i ds)
      intro s H' C cl fp
      rw [show ((0 : Int) + ((j : Nat) : Int)) = ((j : Nat) : Int) from Int.zero_add _]
      refine hg1 b hbm j hlt1 s H' C cl fp A B H8 (wipe σ4 vs1) (.int ((j : Nat) : Int)) E7 ⟨rfl, .int _⟩ _ fun σ8 E8 w8 => ⟨(w8 vs1 hj1).trans wipe_idem, ?_⟩
      intro s H' C cl fp
      refine ets_nil A B H8 σ8 E8 _ fun H9 e9 => ?_
      rw [if_pos rfl]
      obtain ⟨iy, hel⟩ := hb b hbm j hlt1
      intro s H' C cl fp
      refine hel s H' C cl fp A B H9 σ8 (E8.mono e9) _ fun v H10 e10 r10 => ?_
      have e79 := e9.trans e10
      have hDa := e79 _ _ hD7
      have im1 : imms (done ++ (List.range j).map (f b)) = true := imms_append im0 (imms_map fun j' hj' => (hb b hbm j' (by have := List.mem_range.mp hj'; omega)).1)
      refine ⟨us, hDa, szl (by
        have := hus7.length
        simp only [List.length_append, List.length_map, List.length_range] at this hlen
        omega), us ++ [v], t7.trans (e79.tx.trans (Tx.mut hDa)), (e7.trans e79).mut nD, upd_same, ?_⟩
      rw [List.range_succ, List.map_append, ← List.append_assoc]
      exact ((hus7.ex e79).append (.cons r10 .nil)).tx (Tx.mut hDa) (imms_append im1 (imms_cons.mpr ⟨iy, rfl⟩))
    · have e : j = k b := by omega
      subst e
      exact .inl ⟨Nat.le_refl _, us, e7, hD7, hus7⟩
  · have e : i = l.length := by omega
    subst e
    rw [List.take_length] at hus
    exact .inl ⟨IO.stop _ H2 g2 (by rw [List.length_map]), q Dl us H2 (e1.back nD) (e1.trans e2) hD hus⟩
theorem ip_of {op : Operator} {r : R2} (h : OpR X (inplaceOp op) r) : PIp X op r := h
/-- name op= e, on ints -/
theorem run_aug {P : Pst} (i : Nat) {x : Str} {px : Pos} {op : Operator} {C : Int → Int → Prop} {F : Int → Int → V} {a b : Int} {d : PyData} (c : Ctx X) (ho : OpR X (inplaceOp op) (rI C F)) (hs : S[i]? = some (Sl.dat (.int a))) (he : EvD X e1 S (.int b)) (hc : C a b) (hd : ∀ H, Dv H (F a b) d) (im : imm d = true) (hn : P.nx (S.set i (Sl.dat d))) (hi : X.N[i]? = some x := by rfl) (hx : Loc X.env.scope x := by first | exact Or.inl rfl | exact Or.inr rfl)
    (hf : X.fn x = true ∨ X.env.scope.names.lookup x = some .local := by first | exact .inl rfl | exact .inr rfl) : Run1 X (.AugAssign (.Name x px) op e1 pos) S P := fun A B H σ D E K => by
  obtain ⟨v, h1, h2⟩ := E.val hs
  exact ⟨_, ps_aug c.nd hi hx we (ip_of ho) hf, v, h1, he A B H σ E _ fun y H1 e1 r1 => ⟨a, b, h2.toInt, r1.toInt, hc, K.nx _ _ H1 hn ((E.mono e1).setDat im (hd H1))⟩⟩
theorem run_setLc2 {P : Pst} (i : Nat) {y : Str} {py p1 : Pos} (c : Ctx X) (own : List (Str × Nat)) (vs1 : List Nat) (ok : blkC X.N X.env.scope scope own = true) (l : List β) (item : β → Itm) (js js1 : List Nat) (S1 : β → List Sl) (k : β → Nat) (S2 : β → Nat → List Sl) (f : β → Nat → PyData) {S0 : List Sl} {items : List Itm} (hi : ItD X tg iter S S0 items) (he : items = l.map item) (hno : ∀ b ∈ l, ∀ (j : Nat) (ds : List PyData), (S1 b)[j]? ≠ some (Sl.lst ds)) (hj : ∀ j ∈ js, j ∈ own.map (·.2)) (hj1 : ∀ j ∈ js1, j ∈ vs1) (hv : ∀ i ∈ vs1, i ∈ own.map (·.2))
    (hg : ∀ b ∈ l, ∀ s H C cl fp, GTo (X.blk s H scope (compEnvC scope cl C X.env) fp) tg (item b) js (wipeS S (own.map (·.2))) (S1 b)) (hk : ∀ b ∈ l, ∀ s H C cl fp, EvD (X.blk s H scope (compEnvC scope cl C X.env) fp) e1 (S1 b) (.int (k b))) (hkb : ∀ b ∈ l, k b < 100000)
    (hg1 : ∀ b ∈ l, ∀ j, j < k b → ∀ s H C cl fp, GTo (X.blk s H scope (compEnvC scope cl C X.env) fp) tg1 (.one (.dat (eN j))) js1 (wipeS (S1 b) vs1) (S2 b j))
    (hb : ∀ b ∈ l, ∀ j, j < k b → imm (f b j) = true ∧ ∀ s H C cl fp, EvD (X.blk s H scope (compEnvC scope cl C X.env) fp) elt (S2 b j) (f b j)) (hz : (l.flatMap fun b => (List.range (k b)).map (f b)).length < 100000)
    (hn : P.nx (S.set i (Sl.lst (l.flatMap fun b => (List.range (k b)).map (f b))))) (hgr2 : ∀ s H C cl fp, Gl (X.blk s H scope (compEnvC scope cl C X.env) fp) "range" := by intros; rfl) (hs1 : ∀ s H C cl fp, starEach [e1] (X.blk s H scope (compEnvC scope cl C X.env) fp).env = [(false, eval e1 (X.blk s H scope (compEnvC scope cl C X.env) fp).env)] := by intros; rfl) (hs2 : ∀ s H C cl fp, starEach [e1] (X.blk s H scope (compEnvC scope cl C X.env) fp).env = (false, eval e1 (X.blk s H scope (compEnvC scope cl C X.env) fp).env) :: starEach [] (X.blk s H scope (compEnvC scope cl C X.env) fp).env := by intros; rfl)
    (hy : X.N[i]? = some y := by rfl) (hyl : X.env.scope.names.lookup y = some .local := by rfl) (hsw : swapsWith (.ListComp elt [⟨tg, iter, [], 0⟩, ⟨tg1, .Call (.Name "range" p1) [e1] [] pos1, [], 0⟩] scope pos) (some (.Name y py)) spos.line X.env = pure true := by exact sw_true rfl rfl rfl (by decide +kernel))
    (hs : ∀ x, foldedSetIterable iter X.env x = pure x := by intro _; rfl) (hss : ∀ env x, foldedSetIterable (.Call (.Name "range" p1) [e1] [] pos1) env x = pure x := by intro _ _; rfl) (hw : ∀ A B H σ, EnvOk A B H σ S → EnvOk A B H σ S0 := by first | exact fun _ _ _ _ E => E | exact fun _ _ _ _ E => E.forget') :
    Run1 X (.Assign [.Name y py] (.ListComp elt [⟨tg, iter, [], 0⟩, ⟨tg1, .Call (.Name "range" p1) [e1] [] pos1, [], 0⟩] scope pos) spos) S P := fun A B H σ D E K => by
  subst he
  have im : imms (l.flatMap fun b => (List.range (k b)).map (f b)) = true := imms_iff.mpr fun d hd => by
    obtain ⟨b, hb1, hd⟩ := List.mem_flatMap.mp hd
    obtain ⟨j, hj, rfl⟩ := List.mem_map.mp hd
    exact (hb b hb1 j (List.mem_range.mp hj)).1
  exact ⟨_, ps_setLc2 (i := i) (vs1 := vs1) c.calm c.nd hy hyl hsw wi (blkOk_by ok) hv (fun s H C cl fp => ⟨fun pins s0 σ H0 v u Q I r hq => (hq s H C cl fp).elim fun t ⟨p, q⟩ => p.run pins s0 σ H0 v u Q I r q⟩) (fun s H C cl fp => ⟨fun pins s0 σ H0 Q I hq => (hq s H C cl fp).elim fun t ⟨p, q⟩ => p.run pins s0 σ H0 Q I q⟩)
    (fun s H C cl fp => ⟨fun pins s0 σ H0 R I hq => (hq s H C cl fp).elim fun t ⟨p, q⟩ => p.run pins s0 σ H0 R I q⟩)
    (fun s H C cl fp => ⟨fun pins s0 σ H0 v u Q I r hq => (hq s H C cl fp).elim fun t ⟨p, q⟩ => p.run pins s0 σ H0 v u Q I r q⟩) (fun s H C cl fp => ⟨fun pins s0 σ H0 Q I hq => (hq s H C cl fp).elim fun t ⟨p, q⟩ => p.run pins s0 σ H0 Q I q⟩)
    (fun s H C cl fp => ⟨fun pins s0 σ H0 Q I hq => (hq s H C cl fp).elim fun t ⟨p, q⟩ => p.run pins s0 σ H0 Q I q⟩) hs hss, lc2_read c l item js js1 S1 k S2 f hi hw hno hj hj1 hg hk hkb hg1 hb hz hgr2 hs1 hs2 E _ fun p xs H' n e1 h2 h3 => K.nx _ _ H' hn (E.setNew im e1 n h2 h3)⟩
end
end Ow
end

section
set_option linter.all false
set_option maxRecDepth 100000
set_option maxHeartbeats 4000000
set_option autoImplicit false
/-! More rules: ranges of two ends; two names at once, captured ones too. -/
namespace Ow
open PySem L2 OwL Om
section
variable {X : Cx} {S : List Sl} {a b e1 e2 : Expr} {x y : Str} {pos p : Pos} {P : Pst}
theorem it_range2 {tg : Expr} {i k : Int} (c : Ctx X) (h : EvD X e1 S (.int i)) (h' : EvD X e2 S (.int k)) (b1 : -(2 ^ 62) ≤ i) (b2 : i < 2 ^ 62) (b3 : -(2 ^ 62) ≤ k) (b4 : k < 2 ^ 62) (hg : Gl X "range" := by rfl)
    (hs : starEach [e1, e2] X.env = [(false, eval e1 X.env), (false, eval e2 X.env)] := by rfl) (hs2 : starEach [e2] X.env = [(false, eval e2 X.env)] := by rfl) (hs3 : starEach [e1, e2] X.env = (false, eval e1 X.env) :: starEach [e2] X.env := by rfl) (hs4 : starEach [e2] X.env = (false, eval e2 X.env) :: starEach [] X.env := by rfl) :
    ItD X tg (.Call (.Name "range" p) [e1, e2] [] pos) S S (rng i (k - i).toNat) := fun A B H σ E R r =>
  ⟨_, pi_range2 hg c.range (pa_cons we (pa_cons we pa_nil hs4) hs3) hs hs2, h A B H σ E _ fun v H0 e0 r0 => h' A B H0 σ (E.mono e0) _ fun v' H1 e1 r1 =>
    ⟨i, k, by rw [r0.toInt, r1.toInt], ⟨b1, b2, b3, b4⟩, r _ _ (e0.trans e1) fun G ag g => ⟨fun j H2 e2 hi => by unfold rng at hi; rw [List.length_map, List.length_range] at hi; exact hi, fun j H2 e2 hi => by unfold rng at hi; rw [List.length_map, List.length_range] at hi; exact Nat.le_of_eq hi.symm, fun j H2 x H3 e2 hy hi => by
    obtain ⟨rfl, rfl⟩ := hy
    unfold rng at hi ⊢
    rw [List.length_map, List.length_range] at hi
    exact ⟨Ex.refl _, .one (.dat (.int (i + (j : Int)))), by rw [List.getElem?_map, List.getElem?_range hi]; rfl, rfl, .int _⟩⟩⟩⟩
theorem EnvOk.later {A B H H1 H2 : Hp} {σ : L2.St} (E : EnvOk A B H σ S) {i : Nat} {v : V} {s : Sl} (e1 : Ex H H1) (h : PutS A B H H1 v s) (e2 : Ex H1 H2) : EnvOk A B H2 (σ.set i (some v)) (S.set i s) := (E.putS e1 h).mono e2
/-- x, y = a, b, whatever the names -/
theorem run_parG (i j : Nat) (s t : Sl) {px py pt pt2 : Pos} {kt k2 : Nat} (c : Ctx X) (ha : EvS X a S s) (hb : EvS X b S t) (hij : i ≠ j) (hn : P.nx ((S.set i s).set j t)) (hi : X.N[i]? = some x := by rfl) (hj : X.N[j]? = some y := by rfl)
    (hx : Loc X.env.scope x := by first | exact Or.inl rfl | exact Or.inr rfl) (hf : X.fn x = true ∨ X.env.scope.names.lookup x = some .local := by first | exact .inl rfl | exact .inr rfl) (hy : Loc X.env.scope y := by first | exact Or.inl rfl | exact Or.inr rfl) (hf2 : X.fn y = true ∨ X.env.scope.names.lookup y = some .local := by first | exact .inl rfl | exact .inr rfl)
    (g1 : (assignEach [.Name x px, .Name y py] X.env).map (·.2) = assign (.Name x px) X.env :: (assignEach [.Name y py] X.env).map (·.2) := by rfl) (g2 : (assignEach [.Name y py] X.env).map (·.2) = assign (.Name y py) X.env :: (assignEach [] X.env).map (·.2) := by rfl)
    (gn : (assignEach [.Name x px, .Name y py] X.env).length = 2 := by rfl) (gst : (assignEach [.Name x px, .Name y py] X.env).findIdx? (·.1) = none := by rfl)
    (hs : swapsWithSole [.Tuple [.Name x px, .Name y py] kt pt] (.Tuple [a, b] k2 pt2) pos.line X.env = pure false := by rfl) (hw : swappedStores [.Tuple [.Name x px, .Name y py] kt pt] (.Tuple [a, b] k2 pt2) X.env = pure none := by rfl)
    (h0 : (assignEach [.Tuple [.Name x px, .Name y py] kt pt] X.env).map (·.2) = [assign (.Tuple [.Name x px, .Name y py] kt pt) X.env] := by rfl) (h1 : starEach [a, b] X.env = (false, eval a X.env) :: starEach [b] X.env := by rfl) (h2 : starEach [b] X.env = (false, eval b X.env) :: starEach [] X.env := by rfl) :
    Run1 X (.Assign [.Tuple [.Name x px, .Name y py] kt pt] (.Tuple [a, b] k2 pt2) pos) S P := fun A B H σ D E K =>
  ⟨_, ps_asg (pe_tup (pa_cons we (pa_cons we pa_nil h2) h1)) (pg_tup c.calm (pgs_cons (pg_name c.nd hi hx hf) (pgs_cons (pg_name c.nd hj hy hf2) pgs_nil g2) g1) gn gst) hs hw h0, ha.run E fun v H1 e1 r1 => hb.run (E.mono e1) fun v2 H2 e2 r2 =>
    ⟨by show 2 ≤ sizeLine; decide, fun tp htp => by
      have e3 : Ex H2 (upd H2 tp (.tup [v, v2])) := Ex.new htp
      refine ⟨tp, [v, v2], rfl, .inl (.inl upd_same), rfl, _, _, rfl, _, _, rfl, rfl, ?_⟩
      have E1 := E.putS (i := i) e1 r1
      have E2 : EnvOk A B H2 ((σ.set i (some v)).set j (some v2)) ((S.set i s).set j t) := by
        cases t with
        | any => exact False.elim r2
        | fix u => exact False.elim r2
        | obj C0 fsd0 => exact False.elim r2
        | pre F0 => exact False.elim r2
        | arg d => exact False.elim r2
        | dat d => exact (E1.mono e2).setDat r2.1 r2.2
        | lst ds =>
          obtain ⟨im, q, xs, rfl, n, k2, k3⟩ := r2
          exact E1.setNew im e2 n k2 k3
      exact K.nx _ _ _ hn (E2.mono e3)⟩⟩
end
end Ow
namespace Ow
open PySem L2 OwL Om
section
variable {X : Cx} {S : List Sl} {x y : Str} {pos : Pos} {P : Pst} {ds : List PyData}
/-- x = y, y an own list: it is x's now -/
theorem run_move (i j : Nat) {p' p2 : Pos} (c : Ctx X) (h : S[j]? = some (Sl.lst ds)) (hij : i ≠ j) (hn : P.nx ((S.set j Sl.any).set i (Sl.lst ds))) (hi : X.N[i]? = some x := by rfl) (hN : X.N[j]? = some y := by rfl) (hx : Loc X.env.scope x := by first | exact Or.inl rfl | exact Or.inr rfl)
    (hv : Vis X.env.scope y := by first | exact Or.inl rfl | exact Or.inr (Or.inl rfl) | exact Or.inr (Or.inr rfl)) (hdb : (y == ("__debug__" : Str)) = false := by decide) (hcd : (y == ("__classdict__" : Str)) = false := by decide) (hs : swapsWith (.Name y p2) (some (.Name x p')) pos.line X.env = pure false := by rfl)
    (hf : X.fn x = true ∨ X.env.scope.names.lookup x = some .local := by first | exact .inl rfl | exact .inr rfl) : Run1 X (.Assign [.Name x p'] (.Name y p2) pos) S P := fun A B H σ D E K => by
  obtain ⟨im, p, xs, h1, h2, h3, h4⟩ := E.vlst h
  refine ⟨_, ps_set c.nd hi hx (pe_var hN hv hdb hcd) hs hf, _, h1, K.nx _ _ H hn ?_⟩
  refine (E.forget' (i := j)).setLst im h2 h3 h4 fun k es hk hks => ?_
  rcases get_set hks with ⟨_, _, z⟩ | ⟨n, g⟩
  · cases z
  · intro z
    exact n (E.dis j k ds es p h g h1 z)
end
end Ow
namespace Ow
open PySem L2 OwL Om
section
variable {X : Cx} {S : List Sl} {x fl : Str} {pos p1 : Pos} {d : PyData}
theorem ev_fld (i : Nat) {C : Addr} {fsd : List (Str × PyData)} (h : S[i]? = some (Sl.obj C fsd)) (cl : Cls X.K C) (na : NoAttr X.K C fl) (hf : fsd.lookup fl = some d) (hN : X.N[i]? = some x := by rfl) (hv : Vis X.env.scope x := by first | exact Or.inl rfl | exact Or.inr (Or.inl rfl) | exact Or.inr (Or.inr rfl)) (hdb : (x == ("__debug__" : Str)) = false := by decide)
    (hcd : (x == ("__classdict__" : Str)) = false := by decide) (hb : attributeBase (.Name x p1) fl X.env (eval (.Name x p1) X.env) = eval (.Name x p1) X.env := by rfl) : EvD X (.Attribute (.Name x p1) fl pos) S d := fun A B H σ E Q q => by
  obtain ⟨o, ho, a, dx, fs, rfl, ha, hfs⟩ := E.at h
  obtain ⟨u, l, r⟩ := hfs fl d hf
  have aH : Ex A H := E.ax.trans E.ex
  exact ⟨_, pe_fld (pe_var hN hv hdb hcd) hb, _, ho, a, C, dx, fs, u, rfl, aH _ _ ha, cl, na, l, q u H (Ex.refl H) (r.ex aH)⟩
/-- an environment of what is known of each slot -/
inductive SlAll (H : Hp) : L2.St → List Sl → Prop
  | nil : SlAll H [] []
  | cons {o : Option V} {σ : L2.St} {s : Sl} {S : List Sl} : SlV H H H o s → (∀ ds, s ≠ Sl.lst ds) → SlAll H σ S → SlAll H (o :: σ) (s :: S)
theorem SlAll.env {H : Hp} {σ : L2.St} {S : List Sl} (h : SlAll H σ S) : EnvOk H H H σ S := by
  have hl : σ.length = S.length ∧ (∀ (i : Nat) (o : Option V) (s : Sl), σ[i]? = some o → S[i]? = some s → SlV H H H o s) ∧ ∀ (i : Nat) (ds : List PyData), S[i]? ≠ some (Sl.lst ds) := by
    induction h with
    | nil => exact ⟨rfl, fun i o s h => by simp at h, fun i ds h => by simp at h⟩
    | cons h1 h2 _ ih =>
      obtain ⟨i1, i2, i3⟩ := ih
      refine ⟨by rw [List.length_cons, List.length_cons, i1], fun i o s e1 e2 => ?_, fun i ds e => ?_⟩
      · cases i with
        | zero =>
          cases e1
          cases e2
          exact h1
        | succ i => exact i2 i o s e1 e2
      · cases i with
        | zero => exact h2 ds (Option.some.inj e)
        | succ i => exact i3 i ds e
  exact ⟨Ex.refl H, Ex.refl H, hl.1, hl.2.1, fun i j ds es p h1 => absurd h1 (hl.2.2 i ds)⟩
end
end Ow
end

section
set_option linter.all false
set_option autoImplicit false
/-! Vectors and their places, plain. -/
namespace Ow
open Om
theorem snoc_ind {α : Type} {p : List α → Prop} (h0 : p []) (h1 : ∀ l a, p l → p (l ++ [a])) : ∀ l, p l := by
  intro l
  generalize hn : l.length = n
  induction n generalizing l with
  | zero =>
    have : l = [] := List.length_eq_zero_iff.mp hn
    rw [this]
    exact h0
  | succ n ih =>
    rcases List.eq_nil_or_concat l with rfl | ⟨L, b, rfl⟩
    · simp at hn
    · simp only [List.concat_eq_append] at hn ⊢
      exact h1 L b (ih L (by simpa using hn))
theorem vecs_nil : vecs [] = [[]] := rfl
theorem vecs_snoc (cs : List Nat) (k : Nat) : vecs (cs ++ [k]) = vstep (vecs cs) k := by
  unfold vecs
  rw [List.foldl_append]
  rfl
def Fits (v cs : List Nat) : Prop := v.length = cs.length ∧ ∀ i, At v i ≤ At cs i
theorem At_app_left {l t : List Nat} {i : Nat} (h : i < l.length) : At (l ++ t) i = At l i := by
  unfold At
  rw [List.getD_eq_getElem?_getD, List.getD_eq_getElem?_getD, List.getElem?_append_left h]
theorem At_app_last (l : List Nat) (x : Nat) : At (l ++ [x]) l.length = x := by
  unfold At
  rw [List.getD_eq_getElem?_getD, List.getElem?_append_right (Nat.le_refl _)]
  simp
theorem At_out {l : List Nat} {i : Nat} (h : l.length ≤ i) : At l i = 0 := by
  unfold At
  rw [List.getD_eq_getElem?_getD, List.getElem?_eq_none h]
  rfl
theorem At_get {l : List Nat} {i : Nat} (h : i < l.length) : l[i]? = some (At l i) := by
  unfold At
  rw [List.getD_eq_getElem?_getD, List.getElem?_eq_getElem h]
  rfl
theorem At_of {l : List Nat} {i x : Nat} (h : l[i]? = some x) : At l i = x := by
  unfold At
  rw [List.getD_eq_getElem?_getD, h]
  rfl
theorem Fits.snoc {v cs : List Nat} {x k : Nat} (h : Fits v cs) (hx : x ≤ k) : Fits (v ++ [x]) (cs ++ [k]) := by
  refine ⟨by simp [h.1], fun i => ?_⟩
  by_cases hi : i < v.length
  · rw [At_app_left hi, At_app_left (by rw [← h.1]; exact hi)]
    exact h.2 i
  · by_cases e : i = v.length
    · subst e
      rw [At_app_last, h.1, At_app_last]
      exact hx
    · rw [At_out (l := v ++ [x]) (by simp; omega)]
      exact Nat.zero_le _
theorem Fits.unsnoc {v cs : List Nat} {x k : Nat} (h : Fits (v ++ [x]) (cs ++ [k])) : Fits v cs ∧ x ≤ k := by
  have hl : v.length = cs.length := by have := h.1; simpa using this
  refine ⟨⟨hl, fun i => ?_⟩, ?_⟩
  · by_cases hi : i < v.length
    · have q := h.2 i
      rw [At_app_left hi, At_app_left (by rw [← hl]; exact hi)] at q
      exact q
    · rw [At_out (l := v) (by omega)]
      exact Nat.zero_le _
  · have q := h.2 v.length
    rw [At_app_last] at q
    rw [hl, At_app_last] at q
    exact q
theorem mem_vecs : ∀ cs v : List Nat, v ∈ vecs cs ↔ Fits v cs := by
  intro cs
  induction cs using snoc_ind with
  | h0 =>
    intro v
    rw [vecs_nil, List.mem_singleton]
    constructor
    · rintro rfl
      exact ⟨rfl, fun _ => Nat.le_refl _⟩
    · intro h
      exact List.length_eq_zero_iff.mp h.1
  | h1 cs k ih =>
    intro v
    rw [vecs_snoc]
    unfold vstep
    rw [List.mem_flatMap]
    constructor
    · rintro ⟨u, hu, hv⟩
      obtain ⟨x, hx, rfl⟩ := List.mem_map.mp hv
      exact ((ih u).mp hu).snoc (by have := List.mem_range.mp hx; omega)
    · intro h
      rcases List.eq_nil_or_concat v with rfl | ⟨u, x, rfl⟩
      · have := h.1
        simp at this
      · rw [List.concat_eq_append] at h ⊢
        obtain ⟨h1, h2⟩ := h.unsnoc
        exact ⟨u, (ih u).mpr h1, List.mem_map.mpr ⟨x, List.mem_range.mpr (by omega), rfl⟩⟩
def place (cs v : List Nat) : Nat := (v.zip cs).foldl (fun a z => a * (z.2 + 1) + z.1) 0
theorem place_snoc {cs v : List Nat} (h : v.length = cs.length) (x k : Nat) : place (cs ++ [k]) (v ++ [x]) = place cs v * (k + 1) + x := by
  unfold place
  rw [List.zip_append h, List.foldl_append]
  rfl
theorem vstep_get (k x : Nat) (hx : x ≤ k) : ∀ (F : List (List Nat)) (i : Nat) (v : List Nat), F[i]? = some v → (vstep F k)[i * (k + 1) + x]? = some (v ++ [x])
  | [], i, v, h => by simp at h
  | u :: F, 0, v, h => by
    have e : u = v := by simpa using h
    subst e
    unfold vstep
    rw [List.flatMap_cons, show 0 * (k + 1) + x = x by omega, List.getElem?_append_left (by simp; omega), List.getElem?_map, List.getElem?_range (by omega)]
    rfl
  | u :: F, i + 1, v, h => by
    have ih := vstep_get k x hx F i v (by simpa using h)
    unfold vstep at ih ⊢
    rw [List.flatMap_cons, List.getElem?_append_right (by simp; rw [Nat.add_mul]; omega)]
    rw [← ih]
    congr 1
    simp
    rw [Nat.add_mul]
    omega
theorem vecs_place : ∀ cs v : List Nat, Fits v cs → (vecs cs)[place cs v]? = some v := by
  intro cs
  induction cs using snoc_ind with
  | h0 =>
    intro v h
    have : v = [] := List.length_eq_zero_iff.mp h.1
    subst this
    rfl
  | h1 cs k ih =>
    intro v h
    rcases List.eq_nil_or_concat v with rfl | ⟨u, x, rfl⟩
    · have := h.1
      simp at this
    · rw [List.concat_eq_append] at h ⊢
      obtain ⟨h1, h2⟩ := h.unsnoc
      rw [vecs_snoc, place_snoc h1.1]
      exact vstep_get k x h2 _ _ _ (ih u h1)
theorem vstep_len (k : Nat) : ∀ F : List (List Nat), (vstep F k).length = F.length * (k + 1)
  | [] => by simp [vstep]
  | u :: F => by
    have ih := vstep_len k F
    unfold vstep at ih ⊢
    rw [List.flatMap_cons, List.length_append, ih]
    simp
    rw [Nat.add_mul]
    omega
theorem vecs_len : ∀ cs : List Nat, (vecs cs).length = cs.foldl (fun s k => s * (k + 1)) 1 := by
  intro cs
  induction cs using snoc_ind with
  | h0 => rfl
  | h1 cs k ih =>
    rw [vecs_snoc, vstep_len, ih, List.foldl_append]
    rfl
theorem two_pow (k : Nat) : k + 1 ≤ 2 ^ k := Nat.lt_two_pow_self
theorem sum_snoc (cs : List Nat) (k : Nat) : (cs ++ [k]).sum = cs.sum + k := by
  rw [List.sum_append]
  simp
theorem vecs_le : ∀ cs : List Nat, (vecs cs).length ≤ 2 ^ cs.sum := by
  intro cs
  induction cs using snoc_ind with
  | h0 => simp [vecs]
  | h1 cs k ih =>
    rw [vecs_snoc, vstep_len, sum_snoc, Nat.pow_add]
    exact Nat.mul_le_mul ih (two_pow k)
theorem vecs_1024 {cs : List Nat} (h : cs.sum ≤ 10) : (vecs cs).length ≤ 1024 := Nat.le_trans (vecs_le cs) (Nat.pow_le_pow_right (by decide) h)
theorem place_lt {cs v : List Nat} (h : Fits v cs) : place cs v < (vecs cs).length := (List.getElem?_eq_some_iff.mp (vecs_place cs v h)).1
theorem sum_le_app (u t : List Nat) : u.sum ≤ (u ++ t).sum := by
  rw [List.sum_append]
  omega
theorem Fits.refl (cs : List Nat) : Fits cs cs := ⟨rfl, fun _ => Nat.le_refl _⟩
theorem Fits.trans {u v w : List Nat} (h : Fits u v) (k : Fits v w) : Fits u w := ⟨h.1.trans k.1, fun i => Nat.le_trans (h.2 i) (k.2 i)⟩
theorem Fits.sum : ∀ {v cs : List Nat}, Fits v cs → v.sum ≤ cs.sum
  | [], cs, h => by simp
  | x :: v, [], h => by have := h.1; simp at this
  | x :: v, c :: cs, h => by
    have h0 : x ≤ c := h.2 0
    have ht : Fits v cs := ⟨by have := h.1; simpa using this, fun i => h.2 (i + 1)⟩
    have := Fits.sum ht
    simp only [List.sum_cons]
    omega
theorem At_le_sum : ∀ (l : List Nat) (i : Nat), At l i ≤ l.sum
  | [], i => by simp [At]
  | x :: l, 0 => by
    show x ≤ _
    simp
  | x :: l, i + 1 => by
    have := At_le_sum l i
    show At l i ≤ _
    simp only [List.sum_cons]
    omega
/-- counts -/
theorem counts_len (h : Nat) (g : Hist) : (counts h g).length = h := by simp [counts]
theorem counts_at {h z : Nat} (hz : z < h) (g : Hist) : At (counts h g) z = cnt z g := by
  unfold At counts
  rw [List.getD_eq_getElem?_getD, List.getElem?_map, List.getElem?_range hz]
  rfl
theorem cnt_le_len (z : Nat) : ∀ g : Hist, cnt z g ≤ g.length
  | [] => Nat.le_refl _
  | l :: g => by
    have := cnt_le_len z g
    rw [cnt_cons, List.length_cons]
    split <;> omega
theorem sum_range_add (h : Nat) (f g : Nat → Nat) : ((List.range h).map fun z => f z + g z).sum = ((List.range h).map f).sum + ((List.range h).map g).sum := by
  induction h with
  | zero => rfl
  | succ h ih =>
    simp only [List.range_succ, List.map_append, List.sum_append, ih]
    simp
    omega
theorem sum_range_one (h y : Nat) : ((List.range h).map fun z => if y = z then 1 else 0).sum = if y < h then 1 else 0 := by
  induction h with
  | zero => rfl
  | succ h ih =>
    simp only [List.range_succ, List.map_append, List.sum_append, ih]
    simp
    split <;> split <;> split <;> omega
theorem counts_sum_le (h : Nat) : ∀ g : Hist, (counts h g).sum ≤ g.length
  | [] => by
    show ((List.range h).map fun z => 0).sum ≤ 0
    induction h with
    | zero => exact Nat.le_refl _
    | succ h ih => simp only [List.range_succ, List.map_append, List.sum_append]; simpa using ih
  | l :: g => by
    have ih := counts_sum_le h g
    have : counts h (l :: g) = (List.range h).map fun z => (if l.1 = z then 1 else 0) + cnt z g := rfl
    rw [this, sum_range_add, sum_range_one]
    have e : ((List.range h).map fun z => cnt z g).sum ≤ g.length := ih
    rw [List.length_cons]
    split <;> omega
theorem sum_len {h : Nat} : ∀ {k : Hist}, (∀ l ∈ k, l.1 < h) → (counts h k).sum = k.length
  | [], _ => Nat.le_zero.mp (counts_sum_le h [])
  | l :: k, hk => by
    have e : counts h (l :: k) = (List.range h).map fun z => (if l.1 = z then 1 else 0) + cnt z k := rfl
    have ih := sum_len (k := k) fun x hx => hk x (List.mem_cons_of_mem _ hx)
    rw [e, sum_range_add, sum_range_one, if_pos (hk l List.mem_cons_self), List.length_cons]
    unfold counts at ih
    omega
end Ow
end

section
set_option linter.all false
set_option maxRecDepth 100000
set_option maxHeartbeats 4000000
set_option autoImplicit false
/-! Defs: words. -/
namespace Ow
open PySem L2 OwL Om
open PyProof.Rows (envOfC)
/-- the module's constants -/
structure Gls (mg : Str → Option Value) : Prop where
  hands : ∃ t, mg "MOST_HANDS" = some (.int 4 t)
  deeds : ∃ t, mg "MOST_DEEDS" = some (.int 6 t)
  boards : ∃ t, mg "MOST_BOARDS" = some (.int 8 t)
  deed : ∃ t, mg "DEED" = some (.str "deed" t)
  back1 : ∃ t, mg "BACK_forms" = some (.str "back" t)
  back2 : ∃ t, mg "BACK_parting" = some (.str "back" t)
  exch : ∃ t, mg "EXCHANGE" = some (.str "exchange" t)
  put : ∃ t, mg "PUT" = some (.str "put" t)
  alike : ∃ t, mg "ALIKE" = some (.str "alike" t)
  apart : ∃ t, mg "APART" = some (.str "apart" t)
  numbers : ∃ t, mg "NUMBERS" = some (.str "numbers" t)
abbrev T_is_integer (P : Program) (w : World) (K : PySem.W.Frag) (mg : Str → Option Value) (base : Heap) : Prop := CalF P w K mg base "is_integer" 1 ["value"] (spF (α := PyData) (fun d => [d]) (fun _ => True) fun d => .bool (isInt d))
def isSq : PyData → Bool
  | .list _ => true
  | .tuple _ => true
  | _ => false
def isLs : PyData → Bool
  | .list _ => true
  | _ => false
def isTp : PyData → Bool
  | .tuple _ => true
  | _ => false
theorem kit_list : ∀ d : PyData, kitB (tyN d) "list" = some (isLs d)
  | .none => (by decide +kernel : kitB "NoneType" "list" = some false)
  | .bool _ => (by decide +kernel : kitB "bool" "list" = some false)
  | .int _ => (by decide +kernel : kitB "int" "list" = some false)
  | .str _ => (by decide +kernel : kitB "str" "list" = some false)
  | .list _ => (by decide +kernel : kitB "list" "list" = some true)
  | .tuple _ => (by decide +kernel : kitB "tuple" "list" = some false)
  | .dict _ => (by decide +kernel : kitB "dict" "list" = some false)
theorem kit_tuple : ∀ d : PyData, kitB (tyN d) "tuple" = some (isTp d)
  | .none => (by decide +kernel : kitB "NoneType" "tuple" = some false)
  | .bool _ => (by decide +kernel : kitB "bool" "tuple" = some false)
  | .int _ => (by decide +kernel : kitB "int" "tuple" = some false)
  | .str _ => (by decide +kernel : kitB "str" "tuple" = some false)
  | .list _ => (by decide +kernel : kitB "list" "tuple" = some false)
  | .tuple _ => (by decide +kernel : kitB "tuple" "tuple" = some true)
  | .dict _ => (by decide +kernel : kitB "dict" "tuple" = some false)
theorem kit_str : ∀ d : PyData, kitB (tyN d) "str" = some (match d with | .str _ => true | _ => false)
  | .none => (by decide +kernel : kitB "NoneType" "str" = some false)
  | .bool _ => (by decide +kernel : kitB "bool" "str" = some false)
  | .int _ => (by decide +kernel : kitB "int" "str" = some false)
  | .str _ => (by decide +kernel : kitB "str" "str" = some true)
  | .list _ => (by decide +kernel : kitB "list" "str" = some false)
  | .tuple _ => (by decide +kernel : kitB "tuple" "str" = some false)
  | .dict _ => (by decide +kernel : kitB "dict" "str" = some false)
theorem isSq_eq : ∀ d : PyData, (isLs d || isTp d) = isSq d
  | .none | .bool _ | .int _ | .str _ | .list _ | .tuple _ | .dict _ => rfl
theorem boot_list : bootBuiltins "list" = some (.type "list") := by decide +kernel
theorem boot_tuple : bootBuiltins "tuple" = some (.type "tuple") := by decide +kernel
theorem boot_str : bootBuiltins "str" = some (.type "str") := by decide +kernel
theorem boot_len : bootBuiltins "len" = some (.builtin "len") := by decide +kernel
theorem boot_all : bootBuiltins "all" = some (.builtin "all") := by decide +kernel
theorem boot_any : bootBuiltins "any" = some (.builtin "any") := by decide +kernel
theorem boot_sum : bootBuiltins "sum" = some (.builtin "sum") := by decide +kernel
theorem boot_max : bootBuiltins "max" = some (.builtin "max") := by decide +kernel
theorem boot_min : bootBuiltins "min" = some (.builtin "min") := by decide +kernel
theorem boot_abs : bootBuiltins "abs" = some (.builtin "abs") := by decide +kernel


abbrev s_is_number : Stmt := top 14
theorem sc_is_number : FnScope ["value"] ["value"] (defScope s_is_number) := ⟨rfl, rfl, rfl, by decide +kernel, rfl, by decide +kernel, by decide +kernel⟩
abbrev N_is_number : List Str := ["value"]
abbrev T_is_number (P : Program) (w : World) (K : PySem.W.Frag) (mg : Str → Option Value) (base : Heap) : Prop := CalF P w K mg base "is_number" 2 ["value"] (spF (α := Int) (fun i => [.int i]) (fun _ => True) (fun i => .bool (decide (0 ≤ i))))
section
variable {P : Program} {w : World} {K : PySem.W.Frag} {mg : Str → Option Value} {base : Heap}
theorem c_is_number (B : Blt mg) (G : Gls mg) (D : DefAt K mg "is_number" s_is_number) (C_is_integer : T_is_integer P w K mg base)  : T_is_number P w K mg base := by
  obtain ⟨f, fd, h1, F⟩ := D.ex
  refine ⟨f, fd, h1, F.kp, F.bindsN fun _ _ _ _ _ _ us hl => match us, hl with | [_], _ => rfl, ?_⟩
  refine fn_D F sc_is_number (fun _ => rfl) (fun i => [.arg (.int i)]) (fun _ _ => as_ok ⟨aA, trivial⟩) fun i hp cdv A outer s H E hr => ?_
  try dsimp only at hp
  have c := ctx_of (P := P) (w := w) (K := K) (base := base) (f := f) (cdv := cdv) (outer := outer) (H := H) (E := E) B sc_is_number.nd hr
  exact run_one (run_ret (ev_and (ev_call C_is_integer hr (.int i) trivial (eds_one (ev_var 0 rfl rfl))) fun _ => ev_one (ev_cmp od_ge (ev_var 0 rfl rfl) ev_int)) rfl)
end

abbrev s_is_below : Stmt := top 15
theorem sc_is_below : FnScope ["value", "most"] ["value", "most"] (defScope s_is_below) := ⟨rfl, rfl, rfl, by decide +kernel, rfl, by decide +kernel, by decide +kernel⟩
abbrev N_is_below : List Str := ["value", "most"]
abbrev T_is_below (P : Program) (w : World) (K : PySem.W.Frag) (mg : Str → Option Value) (base : Heap) : Prop := CalF P w K mg base "is_below" 3 ["value", "most"] (spF (α := Int × Int) (fun a => [.int a.1, .int a.2]) (fun _ => True) (fun a => .bool (decide (0 ≤ a.1) && decide (a.1 < a.2))))
section
variable {P : Program} {w : World} {K : PySem.W.Frag} {mg : Str → Option Value} {base : Heap}
theorem c_is_below (B : Blt mg) (G : Gls mg) (D : DefAt K mg "is_below" s_is_below) (C_is_number : T_is_number P w K mg base)  : T_is_below P w K mg base := by
  obtain ⟨f, fd, h1, F⟩ := D.ex
  refine ⟨f, fd, h1, F.kp, F.bindsN fun _ _ _ _ _ _ us hl => match us, hl with | [_, _], _ => rfl, ?_⟩
  refine fn_D F sc_is_below (fun _ => rfl) (fun a => [.arg (.int a.1), .arg (.int a.2)]) (fun _ _ => as_ok ⟨aA, aA, trivial⟩) fun ⟨i, n⟩ hp cdv A outer s H E hr => ?_
  try dsimp only at hp
  have c := ctx_of (P := P) (w := w) (K := K) (base := base) (f := f) (cdv := cdv) (outer := outer) (H := H) (E := E) B sc_is_below.nd hr
  exact run_one (run_ret (ev_and (ev_call C_is_number hr i trivial (eds_one (ev_var 0 rfl rfl))) fun _ => ev_one (ev_cmp od_lt (ev_var 0 rfl rfl) (ev_var 1 rfl rfl))) rfl)
end

abbrev s_is_positive : Stmt := top 16
theorem sc_is_positive : FnScope ["value"] ["value"] (defScope s_is_positive) := ⟨rfl, rfl, rfl, by decide +kernel, rfl, by decide +kernel, by decide +kernel⟩
abbrev N_is_positive : List Str := ["value"]
abbrev T_is_positive (P : Program) (w : World) (K : PySem.W.Frag) (mg : Str → Option Value) (base : Heap) : Prop := CalF P w K mg base "is_positive" 2 ["value"] (spF (α := Int) (fun i => [.int i]) (fun _ => True) (fun i => .bool (decide (1 ≤ i))))
section
variable {P : Program} {w : World} {K : PySem.W.Frag} {mg : Str → Option Value} {base : Heap}
theorem c_is_positive (B : Blt mg) (G : Gls mg) (D : DefAt K mg "is_positive" s_is_positive) (C_is_integer : T_is_integer P w K mg base)  : T_is_positive P w K mg base := by
  obtain ⟨f, fd, h1, F⟩ := D.ex
  refine ⟨f, fd, h1, F.kp, F.bindsN fun _ _ _ _ _ _ us hl => match us, hl with | [_], _ => rfl, ?_⟩
  refine fn_D F sc_is_positive (fun _ => rfl) (fun i => [.arg (.int i)]) (fun _ _ => as_ok ⟨aA, trivial⟩) fun i hp cdv A outer s H E hr => ?_
  try dsimp only at hp
  have c := ctx_of (P := P) (w := w) (K := K) (base := base) (f := f) (cdv := cdv) (outer := outer) (H := H) (E := E) B sc_is_positive.nd hr
  exact run_one (run_ret (ev_and (ev_call C_is_integer hr (.int i) trivial (eds_one (ev_var 0 rfl rfl))) fun _ => ev_one (ev_cmp od_ge (ev_var 0 rfl rfl) ev_int)) rfl)
end

abbrev s_is_sequence : Stmt := top 17
theorem sc_is_sequence : FnScope ["value"] ["value"] (defScope s_is_sequence) := ⟨rfl, rfl, rfl, by decide +kernel, rfl, by decide +kernel, by decide +kernel⟩
abbrev N_is_sequence : List Str := ["value"]
abbrev T_is_sequence (P : Program) (w : World) (K : PySem.W.Frag) (mg : Str → Option Value) (base : Heap) : Prop := CalF P w K mg base "is_sequence" 1 ["value"] (spF (α := PyData) (fun d => [d]) (fun _ => True) (fun d => .bool (isSq d)))
section
variable {P : Program} {w : World} {K : PySem.W.Frag} {mg : Str → Option Value} {base : Heap}
theorem c_is_sequence (B : Blt mg) (G : Gls mg) (D : DefAt K mg "is_sequence" s_is_sequence)   : T_is_sequence P w K mg base := by
  obtain ⟨f, fd, h1, F⟩ := D.ex
  refine ⟨f, fd, h1, F.kp, F.bindsN fun _ _ _ _ _ _ us hl => match us, hl with | [_], _ => rfl, ?_⟩
  refine fn_D F sc_is_sequence (fun _ => rfl) (fun d => [.arg d]) (fun _ _ => as_ok ⟨aA, trivial⟩) fun d hp cdv A outer s H E hr => ?_
  try dsimp only at hp
  have c := ctx_of (P := P) (w := w) (K := K) (base := base) (f := f) (cdv := cdv) (outer := outer) (H := H) (E := E) B sc_is_sequence.nd hr
  exact run_one (run_ret (ev_isi2 c (ev_var 0 rfl rfl) c.list boot_list c.tuple boot_tuple (kit_list d) (kit_tuple d)) (congrArg PyData.bool (isSq_eq d)))
end

abbrev s_is_string : Stmt := top 18
theorem sc_is_string : FnScope ["value"] ["value"] (defScope s_is_string) := ⟨rfl, rfl, rfl, by decide +kernel, rfl, by decide +kernel, by decide +kernel⟩
abbrev N_is_string : List Str := ["value"]
abbrev T_is_string (P : Program) (w : World) (K : PySem.W.Frag) (mg : Str → Option Value) (base : Heap) : Prop := CalF P w K mg base "is_string" 1 ["value"] (spF (α := Str) (fun d => [.str d]) (fun _ => True) (fun d => .bool true))
section
variable {P : Program} {w : World} {K : PySem.W.Frag} {mg : Str → Option Value} {base : Heap}
theorem c_is_string (B : Blt mg) (G : Gls mg) (D : DefAt K mg "is_string" s_is_string)   : T_is_string P w K mg base := by
  obtain ⟨f, fd, h1, F⟩ := D.ex
  refine ⟨f, fd, h1, F.kp, F.bindsN fun _ _ _ _ _ _ us hl => match us, hl with | [_], _ => rfl, ?_⟩
  refine fn_D F sc_is_string (fun _ => rfl) (fun d => [.arg (.str d)]) (fun _ _ => as_ok ⟨aA, trivial⟩) fun d hp cdv A outer s H E hr => ?_
  try dsimp only at hp
  have c := ctx_of (P := P) (w := w) (K := K) (base := base) (f := f) (cdv := cdv) (outer := outer) (H := H) (E := E) B sc_is_string.nd hr
  exact run_one (run_ret (ev_isi c (ev_var 0 rfl rfl) c.str boot_str (kit_str (.str d))) rfl)
end

abbrev s_are_below : Stmt := top 19
theorem sc_are_below : FnScope ["value", "most", "one"] ["value", "most"] (defScope s_are_below) := ⟨rfl, rfl, rfl, by decide +kernel, rfl, by decide +kernel, by decide +kernel⟩
abbrev N_are_below : List Str := ["value", "most", "one"]
abbrev T_are_below (P : Program) (w : World) (K : PySem.W.Frag) (mg : Str → Option Value) (base : Heap) : Prop := CalF P w K mg base "are_below" 4 ["value", "most"] (spF (α := List Nat × Nat) (fun a => [eNs a.1, eN a.2]) (fun a => (∀ x ∈ a.1, x < a.2) ∧ a.1.length ≤ 100000) (fun a => .bool true))
section
variable {P : Program} {w : World} {K : PySem.W.Frag} {mg : Str → Option Value} {base : Heap}
theorem c_are_below (B : Blt mg) (G : Gls mg) (D : DefAt K mg "are_below" s_are_below) (C_is_sequence : T_is_sequence P w K mg base) (C_is_below : T_is_below P w K mg base)  : T_are_below P w K mg base := by
  obtain ⟨f, fd, h1, F⟩ := D.ex
  refine ⟨f, fd, h1, F.kp, F.bindsN fun _ _ _ _ _ _ us hl => match us, hl with | [_, _], _ => rfl, ?_⟩
  refine fn_D F sc_are_below (fun _ => rfl) (fun a => [.arg (eNs a.1), .arg (eN a.2)]) (fun _ _ => as_ok ⟨aA, aA, trivial⟩) fun ⟨l, n⟩ hp cdv A outer s H E hr => ?_
  try dsimp only at hp
  have c := ctx_of (P := P) (w := w) (K := K) (base := base) (f := f) (cdv := cdv) (outer := outer) (H := H) (E := E) B sc_are_below.nd hr
  refine run_one (run_ret (ev_and (k := true) (k' := true) (ev_call C_is_sequence hr _ trivial (eds_one (ev_var 0 rfl rfl))) fun _ => ev_one ?_) rfl)
  refine EvD.is (ev_cb (ca_all c (bs := l.map fun _ => true)) c.all boot_all (eds_one (EvN.toD (ev_lca c [("one", 2)] rfl l (fun x => .one (.dat (eN x))) [2] (fun x => [_, _, .dat (eN x)]) (fun _ => .bool true) (it_tup (ev_var 0 rfl rfl) (imms_N l)) (dats_map eN l) ?_ hp.2 (by decide) (fun x hx s H C cl fp => g_name 2 c.nd) fun x hx => ⟨rfl, fun s H C cl fp => ?_⟩)))) ?_
  · rw [List.map_map]
    rfl
  · exact EvD.is (ev_call C_is_below hr ((x : Int), (n : Int)) trivial (eds_cons (ev_var 2 rfl rfl) (eds_one (ev_var 1 rfl rfl)))) (bool_t (by have := hp.1 x hx; simp; omega))
  · exact congrArg PyData.bool (List.all_eq_true.mpr fun b hb => by
      obtain ⟨_, _, rfl⟩ := List.mem_map.mp hb
      rfl)
end

abbrev s_is_hands : Stmt := top 20
theorem sc_is_hands : FnScope ["value"] ["value"] (defScope s_is_hands) := ⟨rfl, rfl, rfl, by decide +kernel, rfl, by decide +kernel, by decide +kernel⟩
abbrev N_is_hands : List Str := ["value"]
abbrev T_is_hands (P : Program) (w : World) (K : PySem.W.Frag) (mg : Str → Option Value) (base : Heap) : Prop := CalF P w K mg base "is_hands" 3 ["value"] (spF (α := Nat) (fun i => [eN i]) (VHd) (fun i => .bool true))
section
variable {P : Program} {w : World} {K : PySem.W.Frag} {mg : Str → Option Value} {base : Heap}
theorem c_is_hands (B : Blt mg) (G : Gls mg) (D : DefAt K mg "is_hands" s_is_hands) (C_is_positive : T_is_positive P w K mg base)  : T_is_hands P w K mg base := by
  obtain ⟨f, fd, h1, F⟩ := D.ex
  refine ⟨f, fd, h1, F.kp, F.bindsN fun _ _ _ _ _ _ us hl => match us, hl with | [_], _ => rfl, ?_⟩
  refine fn_D F sc_is_hands (fun _ => rfl) (fun i => [.arg (eN i)]) (fun _ _ => as_ok ⟨aA, trivial⟩) fun i hp cdv A outer s H E hr => ?_
  try dsimp only at hp
  have c := ctx_of (P := P) (w := w) (K := K) (base := base) (f := f) (cdv := cdv) (outer := outer) (H := H) (E := E) B sc_is_hands.nd hr
  exact run_one (run_ret (EvD.is (ev_and (k := true) (EvD.is (ev_call C_is_positive hr (i : Int) trivial (eds_one (ev_var 0 rfl rfl))) (bool_t (by have := hp.1; simp; omega))) fun _ => ev_one (ev_cmp od_le (ev_var 0 rfl rfl) (ev_gint G.hands))) (bool_t (by have := hp.2; simp; omega))) rfl)
end
end Ow
end

section
set_option linter.all false
set_option maxRecDepth 100000
set_option maxHeartbeats 4000000
set_option autoImplicit false
/-! Defs: machines, histories. -/
namespace Ow
open PySem L2 OwL Om
open PyProof.Rows (envOfC)
theorem isSq_sq (b : Bool) (ds : List PyData) : isSq (sq b ds) = true := by cases b <;> rfl

abbrev s_is_map : Stmt := top 28
theorem sc_is_map : FnScope ["value", "boards"] ["value", "boards"] (defScope s_is_map) := ⟨rfl, rfl, rfl, by decide +kernel, rfl, by decide +kernel, by decide +kernel⟩
abbrev N_is_map : List Str := ["value", "boards"]
abbrev T_is_map (P : Program) (w : World) (K : PySem.W.Frag) (mg : Str → Option Value) (base : Heap) : Prop := CalF P w K mg base "is_map" 5 ["value", "boards"] (spF (α := List Nat × Nat) (fun a => [eNs a.1, eN a.2]) (fun a => (∀ x ∈ a.1, x < a.2) ∧ a.1.length = a.2 ∧ a.2 ≤ 8) (fun a => .bool true))
section
variable {P : Program} {w : World} {K : PySem.W.Frag} {mg : Str → Option Value} {base : Heap}
theorem c_is_map (B : Blt mg) (G : Gls mg) (D : DefAt K mg "is_map" s_is_map) (C_are_below : T_are_below P w K mg base)  : T_is_map P w K mg base := by
  obtain ⟨f, fd, h1, F⟩ := D.ex
  refine ⟨f, fd, h1, F.kp, F.bindsN fun _ _ _ _ _ _ us hl => match us, hl with | [_, _], _ => rfl, ?_⟩
  refine fn_D F sc_is_map (fun _ => rfl) (fun a => [.arg (eNs a.1), .arg (eN a.2)]) (fun _ _ => as_ok ⟨aA, aA, trivial⟩) fun ⟨l, n⟩ hp cdv A outer s H E hr => ?_
  try dsimp only at hp
  have c := ctx_of (P := P) (w := w) (K := K) (base := base) (f := f) (cdv := cdv) (outer := outer) (H := H) (E := E) B sc_is_map.nd hr
  exact run_one (run_ret (EvD.is (ev_and (k := true) (ev_call C_are_below hr (l, n) ⟨hp.1, by have := hp.2.1; have := hp.2.2; simp at *; omega⟩ (eds_cons (ev_var 0 rfl rfl) (eds_one (ev_var 1 rfl rfl)))) fun _ => ev_one (ev_cmp (od_eqi c) (ev_cb ca_lenT c.len boot_len (eds_one (ev_var 0 rfl rfl))) (ev_var 1 rfl rfl))) (bool_t (by have := hp.2.1; simp at *; omega))) rfl)
end

abbrev s_are_deeds : Stmt := top 29
theorem sc_are_deeds : FnScope ["value", "boards", "one"] ["value"] (defScope s_are_deeds) := ⟨rfl, rfl, rfl, by decide +kernel, rfl, by decide +kernel, by decide +kernel⟩
abbrev N_are_deeds : List Str := ["value", "boards", "one"]
abbrev T_are_deeds (P : Program) (w : World) (K : PySem.W.Frag) (mg : Str → Option Value) (base : Heap) : Prop := CalF P w K mg base "are_deeds" 6 ["value"] (spF (α := Mach) (fun m => [eMs m]) (VM) (fun m => .bool true))
section
variable {P : Program} {w : World} {K : PySem.W.Frag} {mg : Str → Option Value} {base : Heap}
theorem c_are_deeds (B : Blt mg) (G : Gls mg) (D : DefAt K mg "are_deeds" s_are_deeds) (C_is_sequence : T_is_sequence P w K mg base) (C_is_map : T_is_map P w K mg base)  : T_are_deeds P w K mg base := by
  obtain ⟨f, fd, h1, F⟩ := D.ex
  refine ⟨f, fd, h1, F.kp, F.bindsN fun _ _ _ _ _ _ us hl => match us, hl with | [_], _ => rfl, ?_⟩
  refine fn_D F sc_are_deeds (fun _ => rfl) (fun m => [.arg (eMs m)]) (fun _ _ => as_ok ⟨aA, trivial⟩) fun m hp cdv A outer s H E hr => ?_
  try dsimp only at hp
  have c := ctx_of (P := P) (w := w) (K := K) (base := base) (f := f) (cdv := cdv) (outer := outer) (H := H) (E := E) B sc_are_deeds.nd hr
  obtain ⟨r0, e0⟩ : ∃ r0, m.ds[0]? = some r0 := ⟨_, List.getElem?_eq_getElem (show 0 < m.ds.length by have := hp.d1; omega)⟩
  have hb : m.b = r0.length := by unfold Mach.b; rw [getD_of e0]
  have d1 := hp.d1
  have d6 := hp.d6
  have b1 := hp.b1
  have b8 := hp.b8
  have at0 : ∀ {X : Cx} {S : List Sl} {p p2 p3 : Pos} {k : Nat}, EvD X (.Name "value" p) S (eMs m) → EvD X (.Subscript (.Name "value" p) (.Constant (.int 0) k p2) p3) S (eNs r0) := fun h => ev_ixT h ev_int (atI_map (i := 0) e0)
  refine run_cons (run_if (k := false) (et_w (ew_or (k := false) (k' := false) (et_not (k := true) (et_val (ev_call C_is_sequence hr _ trivial (eds_one (ev_var 0 rfl rfl))))) fun _ => ew_or (k := false) (k' := false) (et_not (k := true) (EvT.is (et_chain ev_int (ev_cb ca_lenT c.len boot_len (eds_one (ev_var 0 rfl rfl))) (ev_gint G.deeds)) ?_)) fun _ => ew_or1 (et_not (k := true) (et_val (ev_call C_is_sequence hr _ trivial (eds_one (at0 (ev_var 0 rfl rfl)))))))) (fun z => nomatch z) fun _ => run_nil ?_)
  · rw [List.length_map]
    simp
    omega
  refine run_cons (run_set 1 (.dat (eN r0.length)) c ⟨rfl, EvD.is (ev_cb ca_lenT c.len boot_len (eds_one (at0 (ev_var 0 rfl rfl)))) (by rw [List.length_map]; rfl)⟩ ?_)
  refine run_one (run_ret (EvD.is (ev_and (k := true) (k' := true) (EvD.is (ev_chain ev_int (ev_var 1 rfl rfl) (ev_gint G.boards)) (bool_t (by simp; omega))) fun _ => ev_one (EvD.is (ev_cb (ca_all c (bs := m.ds.map fun _ => true)) c.all boot_all (eds_one (EvN.toD (ev_lca c [("one", 2)] rfl m.ds (fun x => .one (.dat (eNs x))) [2] (fun x => [_, .dat (eN r0.length), .dat (eNs x)]) (fun _ => .bool true) (it_tup (ev_var 0 rfl rfl) (imms_map fun l _ => imm_Ns l)) (dats_map eNs m.ds) ?_ (by omega) (by decide) (fun x hx s H C cl fp => g_name 2 c.nd) fun x hx => ⟨rfl, fun s H C cl fp => ?_⟩)))) ?_)) rfl) rfl)
  · rw [List.map_map]
    rfl
  · exact ev_call C_is_map hr (x, r0.length) ⟨fun y hy => by rw [← hb]; exact (hp.row x hx).2 y hy, by rw [← hb]; exact (hp.row x hx).1, by rw [← hb]; exact b8⟩ (eds_cons (ev_var 2 rfl rfl) (eds_one (ev_var 1 rfl rfl)))
  · exact bool_t (List.all_eq_true.mpr fun b hb => by
      obtain ⟨_, _, rfl⟩ := List.mem_map.mp hb
      rfl)
end

abbrev s_check_machine : Stmt := top 30
theorem sc_check_machine : FnScope ["value", "one"] ["value"] (defScope s_check_machine) := ⟨rfl, rfl, rfl, by decide +kernel, rfl, by decide +kernel, by decide +kernel⟩
abbrev N_check_machine : List Str := ["value", "one"]
abbrev T_check_machine (P : Program) (w : World) (K : PySem.W.Frag) (mg : Str → Option Value) (base : Heap) : Prop := CalF P w K mg base "check_machine" 7 ["value"] (spF (α := Bool × Mach) (fun a => [eMb a.1 a.2]) (fun a => VM a.2) (fun a => eM a.2))
section
variable {P : Program} {w : World} {K : PySem.W.Frag} {mg : Str → Option Value} {base : Heap}
theorem c_check_machine (B : Blt mg) (G : Gls mg) (D : DefAt K mg "check_machine" s_check_machine) (C_is_sequence : T_is_sequence P w K mg base) (C_are_deeds : T_are_deeds P w K mg base) (C_is_below : T_is_below P w K mg base)  : T_check_machine P w K mg base := by
  obtain ⟨f, fd, h1, F⟩ := D.ex
  refine ⟨f, fd, h1, F.kp, F.bindsN fun _ _ _ _ _ _ us hl => match us, hl with | [_], _ => rfl, ?_⟩
  refine fn_D F sc_check_machine (fun _ => rfl) (fun a => [.arg (eMb a.1 a.2)]) (fun _ _ => as_ok ⟨aA, trivial⟩) fun ⟨b, m⟩ hp cdv A outer s H E hr => ?_
  try dsimp only at hp
  have c := ctx_of (P := P) (w := w) (K := K) (base := base) (f := f) (cdv := cdv) (outer := outer) (H := H) (E := E) B sc_check_machine.nd hr
  obtain ⟨r0, e0⟩ : ∃ r0, m.ds[0]? = some r0 := ⟨_, List.getElem?_eq_getElem (show 0 < m.ds.length by have := hp.d1; omega)⟩
  have hb : m.b = r0.length := by unfold Mach.b; rw [getD_of e0]
  have d1 := hp.d1
  have d6 := hp.d6
  have hs := hp.s
  refine run_cons (run_if (k := false) (et_w (ew_or (k := false) (k' := false) (et_not (k := true) (et_val (EvD.is (ev_call C_is_sequence hr _ trivial (eds_one (ev_var 0 rfl rfl))) (bool_t (isSq_sq b _))))) fun _ => ew_or1 (EvT.is (et_cmp (od_nei c) (ev_len c (ev_var 0 rfl rfl)) ev_int) rfl))) (fun z => nomatch z) fun _ => run_nil ?_)
  refine run_cons (run_if (k := false) (et_not (k := true) (et_val (ev_call C_are_deeds hr m hp (eds_one (ev_ixS (i := 1) (ev_var 0 rfl rfl) ev_int rfl))))) (fun z => nomatch z) fun _ => run_nil ?_)
  refine run_cons (run_if (k := false) (et_not (k := true) (et_val (EvD.is (ev_call C_is_below hr ((m.s : Int), (r0.length : Int)) trivial (eds_cons (ev_ixS (i := 0) (ev_var 0 rfl rfl) ev_int rfl) (eds_one (EvD.is (ev_cb ca_lenT c.len boot_len (eds_one (ev_ixT (ev_ixS (i := 1) (ev_var 0 rfl rfl) ev_int rfl) ev_int (atI_map (i := 0) e0)))) (by rw [List.length_map]))))) (bool_t (by simp; omega))))) (fun z => nomatch z) fun _ => run_nil ?_)
  refine run_one (run_ret (ev_tup (eds_cons (ev_ixS (i := 0) (ev_var 0 rfl rfl) ev_int rfl) (eds_one (ev_ct ca_tupL c.tuple boot_tuple (eds_one (EvN.toD (ev_lca c [("one", 1)] rfl m.ds (fun x => .one (.dat (eNs x))) [1] (fun x => [_, .dat (eNs x)]) eNs (it_tup (ev_ixS (i := 1) (ev_var 0 rfl rfl) ev_int rfl) (imms_map fun l _ => imm_Ns l)) (dats_map eNs m.ds) rfl (by omega) (by decide) (fun x hx s H C cl fp => g_name 1 c.nd) fun x hx => ⟨imm_Ns x, fun s H C cl fp => ev_ct ca_tupT c.tuple boot_tuple (eds_one (ev_var 1 rfl rfl))⟩))))))) rfl)
end

abbrev s_need_hands : Stmt := top 32
theorem sc_need_hands : FnScope ["value"] ["value"] (defScope s_need_hands) := ⟨rfl, rfl, rfl, by decide +kernel, rfl, by decide +kernel, by decide +kernel⟩
abbrev N_need_hands : List Str := ["value"]
abbrev T_need_hands (P : Program) (w : World) (K : PySem.W.Frag) (mg : Str → Option Value) (base : Heap) : Prop := CalF P w K mg base "need_hands" 4 ["value"] (spF (α := Nat) (fun i => [eN i]) (VHd) (fun i => eN i))
section
variable {P : Program} {w : World} {K : PySem.W.Frag} {mg : Str → Option Value} {base : Heap}
theorem c_need_hands (B : Blt mg) (G : Gls mg) (D : DefAt K mg "need_hands" s_need_hands) (C_is_hands : T_is_hands P w K mg base)  : T_need_hands P w K mg base := by
  obtain ⟨f, fd, h1, F⟩ := D.ex
  refine ⟨f, fd, h1, F.kp, F.bindsN fun _ _ _ _ _ _ us hl => match us, hl with | [_], _ => rfl, ?_⟩
  refine fn_D F sc_need_hands (fun _ => rfl) (fun i => [.arg (eN i)]) (fun _ _ => as_ok ⟨aA, trivial⟩) fun i hp cdv A outer s H E hr => ?_
  try dsimp only at hp
  have c := ctx_of (P := P) (w := w) (K := K) (base := base) (f := f) (cdv := cdv) (outer := outer) (H := H) (E := E) B sc_need_hands.nd hr
  refine run_cons (run_if (k := false) (et_not (k := true) (et_val (ev_call C_is_hands hr i hp (eds_one (ev_var 0 rfl rfl))))) (fun z => nomatch z) fun _ => run_nil ?_)
  exact run_one (run_ret (ev_var 0 rfl rfl) rfl)
end

abbrev s_is_letter : Stmt := top 33
theorem sc_is_letter : FnScope ["value", "hands", "deeds"] ["value", "hands", "deeds"] (defScope s_is_letter) := ⟨rfl, rfl, rfl, by decide +kernel, rfl, by decide +kernel, by decide +kernel⟩
abbrev N_is_letter : List Str := ["value", "hands", "deeds"]
abbrev T_is_letter (P : Program) (w : World) (K : PySem.W.Frag) (mg : Str → Option Value) (base : Heap) : Prop := CalF P w K mg base "is_letter" 4 ["value", "hands", "deeds"] (spF (α := Bool × (Nat × Nat) × Nat × Nat) (fun a => [eLb a.1 a.2.1, eN a.2.2.1, eN a.2.2.2]) (fun a => a.2.1.1 < a.2.2.1 ∧ a.2.1.2 < a.2.2.2) (fun a => .bool true))
section
variable {P : Program} {w : World} {K : PySem.W.Frag} {mg : Str → Option Value} {base : Heap}
theorem c_is_letter (B : Blt mg) (G : Gls mg) (D : DefAt K mg "is_letter" s_is_letter) (C_is_sequence : T_is_sequence P w K mg base) (C_is_below : T_is_below P w K mg base)  : T_is_letter P w K mg base := by
  obtain ⟨f, fd, h1, F⟩ := D.ex
  refine ⟨f, fd, h1, F.kp, F.bindsN fun _ _ _ _ _ _ us hl => match us, hl with | [_, _, _], _ => rfl, ?_⟩
  refine fn_D F sc_is_letter (fun _ => rfl) (fun a => [.arg (eLb a.1 a.2.1), .arg (eN a.2.2.1), .arg (eN a.2.2.2)]) (fun _ _ => as_ok ⟨aA, aA, aA, trivial⟩) fun ⟨b, l, h, n⟩ hp cdv A outer s H E hr => ?_
  try dsimp only at hp
  have c := ctx_of (P := P) (w := w) (K := K) (base := base) (f := f) (cdv := cdv) (outer := outer) (H := H) (E := E) B sc_is_letter.nd hr
  have h1 : l.1 < h := hp.1
  have h2 : l.2 < n := hp.2
  exact run_one (run_ret (ev_and (k := true) (k' := true) (EvD.is (ev_call C_is_sequence hr _ trivial (eds_one (ev_var 0 rfl rfl))) (bool_t (isSq_sq b _))) fun _ => ev_and (k := true) (k' := true) (EvD.is (ev_cmp (od_eqi c) (ev_len c (ev_var 0 rfl rfl)) ev_int) rfl) fun _ => ev_and (k := true) (k' := true) (EvD.is (ev_call C_is_below hr ((l.1 : Int), (h : Int)) trivial (eds_cons (ev_ixS (i := 0) (ev_var 0 rfl rfl) ev_int rfl) (eds_one (ev_var 1 rfl rfl)))) (bool_t (by simp; omega))) fun _ => ev_one (EvD.is (ev_call C_is_below hr ((l.2 : Int), (n : Int)) trivial (eds_cons (ev_ixS (i := 1) (ev_var 0 rfl rfl) ev_int rfl) (eds_one (ev_var 2 rfl rfl)))) (bool_t (by simp; omega)))) rfl)
end

abbrev s_check_row : Stmt := top 34
theorem sc_check_row : FnScope ["hands", "deeds", "value", "at", "letter"] ["hands", "deeds", "value"] (defScope s_check_row) := ⟨rfl, rfl, rfl, by decide +kernel, rfl, by decide +kernel, by decide +kernel⟩
abbrev N_check_row : List Str := ["hands", "deeds", "value", "at", "letter"]
abbrev T_check_row (P : Program) (w : World) (K : PySem.W.Frag) (mg : Str → Option Value) (base : Heap) : Prop := CalF P w K mg base "check_row" 5 ["hands", "deeds", "value"] (spF (α := Nat × Nat × Bool × Hist) (fun a => [eN a.1, eN a.2.1, eHb a.2.2.1 a.2.2.2]) (fun a => VHd a.1 ∧ VH a.1 a.2.1 a.2.2.2) (fun a => eH a.2.2.2))
section
variable {P : Program} {w : World} {K : PySem.W.Frag} {mg : Str → Option Value} {base : Heap}
theorem c_check_row (B : Blt mg) (G : Gls mg) (D : DefAt K mg "check_row" s_check_row) (C_need_hands : T_need_hands P w K mg base) (C_is_sequence : T_is_sequence P w K mg base) (C_is_letter : T_is_letter P w K mg base)  : T_check_row P w K mg base := by
  obtain ⟨f, fd, h1, F⟩ := D.ex
  refine ⟨f, fd, h1, F.kp, F.bindsN fun _ _ _ _ _ _ us hl => match us, hl with | [_, _, _], _ => rfl, ?_⟩
  refine fn_D F sc_check_row (fun _ => rfl) (fun a => [.arg (eN a.1), .arg (eN a.2.1), .arg (eHb a.2.2.1 a.2.2.2)]) (fun _ _ => as_ok ⟨aA, aA, aA, trivial⟩) fun ⟨h, n, b, g⟩ hp cdv A outer s H E hr => ?_
  try dsimp only at hp
  have c := ctx_of (P := P) (w := w) (K := K) (base := base) (f := f) (cdv := cdv) (outer := outer) (H := H) (E := E) B sc_check_row.nd hr
  obtain ⟨hh, hg, hl⟩ : VHd h ∧ g.length ≤ 10 ∧ ∀ l ∈ g, l.1 < h ∧ l.2 < n := ⟨hp.1, hp.2.1, hp.2.2⟩
  refine run_cons (run_expr (ev_call C_need_hands hr h hh (eds_one (ev_var 0 rfl rfl))) ?_)
  refine run_cons (run_if (k := false) (et_not (k := true) (et_val (EvD.is (ev_call C_is_sequence hr _ trivial (eds_one (ev_var 2 rfl rfl))) (bool_t (isSq_sq b _))))) (fun z => nomatch z) fun _ => run_nil ?_)
  refine run_cons (run_for c (it_enumArg c 2 rfl (sq_or b (g.map (eLb b)))) (fun _ _ _ _ E => E) (S' := startD _ [.arg (eN h), .arg (eN n), .arg (eHb b g)]) (by
    rw [en_map]
    refine for_run (fun (x : Nat × Nat × Nat) => Itm.tup [.dat (.int (x.1 : Nat)), .arg (eLb b x.2)]) (fun _ => startD _ [.arg (eN h), .arg (eN n), .arg (eHb b g)]) _ fun u x v e => ⟨[3, 4], _, g_tup2 3 4 c, ?_⟩
    have hx : x.2 ∈ g := en_mem (e ▸ List.mem_append_right u List.mem_cons_self)
    exact run_one (run_if (k := false) (et_not (k := true) (et_val (ev_call C_is_letter hr (b, x.2, h, n) (hl _ hx) (eds_cons (ev_var 4 rfl rfl) (eds_cons (ev_var 0 rfl rfl) (eds_one (ev_var 1 rfl rfl))))))) (fun z => nomatch z) fun _ => run_nil ⟨[3, 4], rfl⟩)) ?_)
  refine run_one (run_ret (ev_ct ca_tupL c.tuple boot_tuple (eds_one (EvN.toD (ev_lca c [("letter", 4)] rfl g (fun x => .one (.arg (eLb b x))) [4] (fun x => [_, _, _, _, .arg (eLb b x)]) eL (it_arg 2 rfl (sq_or b (g.map (eLb b)))) (List.map_map) rfl (by omega) (by decide) (fun x hx s H C cl fp => g_name 4 c.nd) fun x hx => ⟨imm_L x, fun s H C cl fp => ev_tupS c.blk (ev_var 4 rfl rfl)⟩)))) rfl)
end

abbrev s_check_history : Stmt := top 35
theorem sc_check_history : FnScope ["machine", "hands", "value", "rules"] ["machine", "hands", "value"] (defScope s_check_history) := ⟨rfl, rfl, rfl, by decide +kernel, rfl, by decide +kernel, by decide +kernel⟩
abbrev N_check_history : List Str := ["machine", "hands", "value", "rules"]
abbrev T_check_history (P : Program) (w : World) (K : PySem.W.Frag) (mg : Str → Option Value) (base : Heap) : Prop := CalF P w K mg base "check_history" 8 ["machine", "hands", "value"] (spF (α := Mach × Nat × Bool × Hist) (fun a => [eM a.1, eN a.2.1, eHb a.2.2.1 a.2.2.2]) (fun a => VM a.1 ∧ VHd a.2.1 ∧ VH a.2.1 a.1.ds.length a.2.2.2) (fun a => eH a.2.2.2))
section
variable {P : Program} {w : World} {K : PySem.W.Frag} {mg : Str → Option Value} {base : Heap}
theorem c_check_history (B : Blt mg) (G : Gls mg) (D : DefAt K mg "check_history" s_check_history) (C_check_machine : T_check_machine P w K mg base) (C_check_row : T_check_row P w K mg base)  : T_check_history P w K mg base := by
  obtain ⟨f, fd, h1, F⟩ := D.ex
  refine ⟨f, fd, h1, F.kp, F.bindsN fun _ _ _ _ _ _ us hl => match us, hl with | [_, _, _], _ => rfl, ?_⟩
  refine fn_D F sc_check_history (fun _ => rfl) (fun a => [.arg (eM a.1), .arg (eN a.2.1), .arg (eHb a.2.2.1 a.2.2.2)]) (fun _ _ => as_ok ⟨aA, aA, aA, trivial⟩) fun ⟨m, h, b, g⟩ hp cdv A outer s H E hr => ?_
  try dsimp only at hp
  have c := ctx_of (P := P) (w := w) (K := K) (base := base) (f := f) (cdv := cdv) (outer := outer) (H := H) (E := E) B sc_check_history.nd hr
  refine run_cons (run_set 3 (.dat (eM m)) c ⟨imm_M m, ev_call C_check_machine hr (false, m) hp.1 (eds_one (ev_var 0 rfl rfl))⟩ ?_)
  exact run_one (run_ret (ev_call C_check_row hr (h, m.ds.length, b, g) ⟨hp.2.1, hp.2.2⟩ (eds_cons (ev_var 1 rfl rfl) (eds_cons (EvD.is (ev_cb ca_lenT c.len boot_len (eds_one (ev_ixT (i := 1) (ev_var 3 rfl rfl) ev_int rfl))) (by rw [List.length_map]; rfl)) (eds_one (ev_var 2 rfl rfl))))) rfl)
end
end Ow
end

section
set_option linter.all false
set_option maxRecDepth 100000
set_option maxHeartbeats 4000000
set_option autoImplicit false
/-! Defs: counts, boards, presses. -/
namespace Ow
open PySem L2 OwL Om
open PyProof.Rows (envOfC)

theorem vhd4 : VHd 4 := ⟨by decide, by decide⟩
/-- the module's dict -/
structure Prt (K : PySem.W.Frag) (w : World) (mg : Str → Option Value) : Prop where
  ex : ∃ d es n t, mg "PARTS" = some (.ref d) ∧ KDict K w d es n ∧ PySem.W.nsIn K d "deed" = some (some (.int 3 t))
section
variable {X : Cx} {S : List Sl} {a b e : Expr} {pos p : Pos}
theorem et_notParts (Pt : Prt X.K X.w X.mg) (ha : EvD X a S (.str "deed")) (hg : Gl X "PARTS" := by rfl) : EvT X (.Compare a [.NotIn] [.Name "PARTS" p] pos) S false := fun A B H σ E Q q => by
  obtain ⟨d, es, n, t, h1, h2, h3⟩ := Pt.ex
  exact ⟨_, pt_cmpR (op_notIn_kd h2) we (pe_glob (v := .ref d) hg h1 rfl) rfl, ha A B H σ E _ fun x H1 e1 r1 => ⟨_, _, r1.toStr, rfl, h3, _, rfl, q H1 e1⟩⟩
theorem ev_parts (Pt : Prt X.K X.w X.mg) (hb : EvD X b S (.str "deed")) (hg : Gl X "PARTS" := by rfl) (hs : PlainIx b := by intro _ _; rfl) : EvD X (.Subscript (.Name "PARTS" p) b pos) S (.int 3) := fun A B H σ E Q q => by
  obtain ⟨d, es, n, t, h1, h2, h3⟩ := Pt.ex
  exact ⟨_, pe_ix ix_kdict (pe_glob (v := .ref d) hg h1 rfl) we hs, hb A B H σ E _ fun x H1 e1 r1 => ⟨d, _, .int 3, rfl, r1.toStr, ⟨es, n, _, h2.at_, h2.lit, h3, ⟨t, rfl⟩⟩, q _ H1 e1 (.int 3)⟩⟩
end
def eP (l : Nat × Nat) : PyData := .tuple [.str "deed", eN l.1, eN l.2]
theorem imm_P (l : Nat × Nat) : imm (eP l) = true := rfl
theorem rng_N (h : Nat) : rng 0 ((h : Nat) : Int).toNat = (List.range h).map fun i => .one (.dat (eN i)) := by
  unfold rng
  rw [Int.toNat_natCast]
  refine List.map_congr_left fun i _ => ?_
  rw [Int.zero_add]
  rfl
theorem cnt_filter (z : Nat) : ∀ g : Hist, (g.filter fun l => decide (((l.1 : Nat) : Int) = ((z : Nat) : Int))).length = cnt z g
  | [] => rfl
  | l :: g => by
    have ih := cnt_filter z g
    rw [List.filter_cons, cnt_cons]
    by_cases h : l.1 = z
    · rw [if_pos (by simp [h]), if_pos h, List.length_cons, ih]
      omega
    · rw [if_neg (by simp; omega), if_neg h, ih]
      omega
/-- where a history leads -/
def run (m : Mach) (u : Hist) : Nat := u.foldl (fun b l => m.f l.2 b) m.s
def runs (m : Mach) : Nat → Hist → List Nat
  | _, [] => []
  | b, l :: r => b :: runs m (m.f l.2 b) r
theorem run_snoc (m : Mach) (u : Hist) (l : Nat × Nat) : run m (u ++ [l]) = m.f l.2 (run m u) := by
  unfold run
  rw [List.foldl_append]
  rfl
theorem runs_snoc (m : Mach) (l : Nat × Nat) : ∀ (u : Hist) (b : Nat), runs m b (u ++ [l]) = runs m b u ++ [u.foldl (fun b l => m.f l.2 b) b]
  | [], _ => rfl
  | a :: u, b => by
    show b :: runs m (m.f a.2 b) (u ++ [l]) = _
    rw [runs_snoc m l u]
    rfl
theorem runs_len (m : Mach) : ∀ (u : Hist) (b : Nat), (runs m b u).length = u.length
  | [], _ => rfl
  | a :: u, b => by
    show (runs m _ u).length + 1 = _
    rw [runs_len m u]
    rfl
theorem run_lt {m : Mach} (v : VM m) : ∀ (u : Hist), (∀ l ∈ u, l.2 < m.ds.length) → run m u < m.b := by
  intro u
  induction u using snoc_ind with
  | h0 => exact fun _ => v.s
  | h1 u l ih =>
    intro h
    rw [run_snoc]
    obtain ⟨r, h1, h2, h3, _⟩ := v.f_at (h l (by simp)) (ih fun l hl => h l (by simp [hl]))
    exact h3


abbrev s_counts_of : Stmt := top 36
theorem sc_counts_of : FnScope ["hands", "history", "told", "letter", "hand"] ["hands", "history"] (defScope s_counts_of) := ⟨rfl, rfl, rfl, by decide +kernel, rfl, by decide +kernel, by decide +kernel⟩
abbrev N_counts_of : List Str := ["hands", "history", "told", "letter", "hand"]
abbrev T_counts_of (P : Program) (w : World) (K : PySem.W.Frag) (mg : Str → Option Value) (base : Heap) : Prop := CalF P w K mg base "counts_of" 6 ["hands", "history"] (spF (α := Nat × Hist) (fun a => [eN a.1, eH a.2]) (fun a => VHd a.1 ∧ VH a.1 6 a.2) (fun a => eNs (counts a.1 a.2)))
section
variable {P : Program} {w : World} {K : PySem.W.Frag} {mg : Str → Option Value} {base : Heap}
theorem c_counts_of (B : Blt mg) (G : Gls mg) (D : DefAt K mg "counts_of" s_counts_of) (C_check_row : T_check_row P w K mg base)  : T_counts_of P w K mg base := by
  obtain ⟨f, fd, h1, F⟩ := D.ex
  refine ⟨f, fd, h1, F.kp, F.bindsN fun _ _ _ _ _ _ us hl => match us, hl with | [_, _], _ => rfl, ?_⟩
  refine fn_D F sc_counts_of (fun _ => rfl) (fun a => [.arg (eN a.1), .arg (eH a.2)]) (fun _ _ => as_ok ⟨aA, aA, trivial⟩) fun ⟨h, g⟩ hp cdv A outer s H E hr => ?_
  try dsimp only at hp
  have c := ctx_of (P := P) (w := w) (K := K) (base := base) (f := f) (cdv := cdv) (outer := outer) (H := H) (E := E) B sc_counts_of.nd hr
  obtain ⟨hh, hg, hl⟩ : VHd h ∧ g.length ≤ 10 ∧ ∀ l ∈ g, l.1 < h ∧ l.2 < 6 := ⟨hp.1, hp.2.1, hp.2.2⟩
  refine run_cons (run_set 2 (.dat (eH g)) c ⟨imm_H g, ev_call C_check_row hr (h, 6, false, g) hp (eds_cons (ev_var 0 rfl rfl) (eds_cons (ev_gint G.deeds) (eds_one (ev_var 1 rfl rfl))))⟩ ?_)
  refine run_one (run_ret (ev_ct ca_tupL c.tuple boot_tuple (eds_one (EvN.toD (ev_lca c [("hand", 4)] rfl (List.range h) (fun x => .one (.dat (eN x))) [4] (fun x => [_, _, .dat (eH g), _, .dat (eN x)]) (fun z => eN (cnt z g)) (it_range c (ev_var 0 rfl rfl) (by have := hh.1; omega) (by have := hh.2; omega)) (rng_N h) rfl (by rw [List.length_range]; have := hh.2; omega) (by decide) (fun x hx s H C cl fp => g_name 4 c.nd) fun z hz => ⟨rfl, fun s H C cl fp => EvD.is (ev_cb ca_lenL c.len boot_len (eds_one (EvN.toD (ev_lci c.blk [("letter", 3)] rfl g (fun x => .one (.dat (eL x))) [3] (fun x => [_, _, _, .dat (eL x), .dat (eN z)]) (fun l => decide (((l.1 : Nat) : Int) = ((z : Nat) : Int))) (fun _ => .int 1) (it_tup (ev_var 2 rfl rfl) (imms_L g)) (dats_map eL g) rfl (by omega) (by decide) (fun x hx s H C cl fp => g_name 3 c.nd) (fun l hl s H C cl fp => ets_one (et_cmp (od_eqi c.blk.blk) (ev_ixT (i := 0) (ev_var 3 rfl rfl) ev_int rfl) (ev_var 4 rfl rfl))) fun l hl _ => ⟨rfl, fun s H C cl fp => ev_int⟩)))) (by rw [List.length_map, cnt_filter]; rfl)⟩)))) (by unfold eNs counts; rw [List.map_map]; rfl))
end

abbrev s_boards : Stmt := top 37
theorem sc_boards : FnScope ["machine", "history", "rules", "found", "hand", "deed"] ["machine", "history"] (defScope s_boards) := ⟨rfl, rfl, rfl, by decide +kernel, rfl, by decide +kernel, by decide +kernel⟩
abbrev N_boards : List Str := ["machine", "history", "rules", "found", "hand", "deed"]
abbrev T_boards (P : Program) (w : World) (K : PySem.W.Frag) (mg : Str → Option Value) (base : Heap) : Prop := CalF P w K mg base "boards" 9 ["machine", "history"] (spF (α := Mach × Hist) (fun a => [eM a.1, eH a.2]) (fun a => VM a.1 ∧ VH 4 a.1.ds.length a.2) (fun a => .tuple ((runs a.1 a.1.s a.2 ++ [run a.1 a.2]).map eN)))
section
variable {P : Program} {w : World} {K : PySem.W.Frag} {mg : Str → Option Value} {base : Heap}
theorem c_boards (B : Blt mg) (G : Gls mg) (D : DefAt K mg "boards" s_boards) (C_check_machine : T_check_machine P w K mg base) (C_check_history : T_check_history P w K mg base)  : T_boards P w K mg base := by
  obtain ⟨f, fd, h1, F⟩ := D.ex
  refine ⟨f, fd, h1, F.kp, F.bindsN fun _ _ _ _ _ _ us hl => match us, hl with | [_, _], _ => rfl, ?_⟩
  refine fn_D F sc_boards (fun _ => rfl) (fun a => [.arg (eM a.1), .arg (eH a.2)]) (fun _ _ => as_ok ⟨aA, aA, trivial⟩) fun ⟨m, g⟩ hp cdv A outer s H E hr => ?_
  try dsimp only at hp
  have c := ctx_of (P := P) (w := w) (K := K) (base := base) (f := f) (cdv := cdv) (outer := outer) (H := H) (E := E) B sc_boards.nd hr
  obtain ⟨hm, hg, hl⟩ : VM m ∧ g.length ≤ 10 ∧ ∀ l ∈ g, l.1 < 4 ∧ l.2 < m.ds.length := ⟨hp.1, hp.2.1, hp.2.2⟩
  refine run_cons (run_set 2 (.dat (eM m)) c ⟨imm_M m, ev_call C_check_machine hr (false, m) hm (eds_one (ev_var 0 rfl rfl))⟩ ?_)
  refine run_cons (run_set 3 (.lst ([m.s].map eN)) c ⟨rfl, ev_lst (eds_one (ev_ixT (i := 0) (ev_var 2 rfl rfl) ev_int rfl))⟩ ?_)
  refine run_cons (run_for c (items := g.map fun l => .one (.dat (eL l))) (S0 := [.arg (eM m), .arg (eH g), .dat (eM m), .lst ([m.s].map eN), .any, .any]) (S' := [.arg (eM m), .arg (eH g), .dat (eM m), .lst ((runs m m.s g ++ [run m g]).map eN), .any, .any]) (dats_map eL g ▸ it_tup (ev_call C_check_history hr (m, 4, false, g) ⟨hm, vhd4, hp.2⟩ (eds_cons (ev_var 2 rfl rfl) (eds_cons (ev_gint G.hands) (eds_one (ev_var 1 rfl rfl))))) (imms_L g)) (fun _ _ _ _ E => E) (for_run (fun l => .one (.dat (eL l))) (fun u => [.arg (eM m), .arg (eH g), .dat (eM m), .lst ((runs m m.s u ++ [run m u]).map eN), .any, .any]) g fun u l v e => ⟨[4, 5], _, GTo.ofTup (g_tup2 4 5 c), ?_⟩) ?_)
  · have hu : ∀ x ∈ u, x.2 < m.ds.length := fun x hx => (hl x (by rw [← e]; simp [hx])).2
    obtain ⟨r, h1, h2, h3, h4⟩ := hm.f_at (hl l (by rw [← e]; simp)).2 (run_lt hm u hu)
    have hul : u.length ≤ 10 := by have := congrArg List.length e; simp at this; omega
    refine run_one (run_append 3 rfl (ev_ixT (d := eN (m.f l.2 (run m u))) (ev_ixT (ev_ixT (i := 1) (ev_var 2 rfl rfl) ev_int rfl) (ev_var 5 rfl rfl) (atI_map h1)) (ev_ixL (i := -1) (ev_var 3 rfl rfl) (ev_neg ev_int) ?_) (atI_map h2)) rfl ?_ ⟨[4, 5], ?_⟩)
    · rw [List.map_append]
      exact atI_last
    · rw [List.length_map, List.length_append, runs_len]
      simp
      omega
    · rw [runs_snoc, run_snoc]
      simp only [List.map_append]
      rfl
  · exact run_one (run_ret (ev_ct ca_tupL c.tuple boot_tuple (eds_one (ev_var 3 rfl rfl))) rfl)
end

abbrev s_board_of : Stmt := top 38
theorem sc_board_of : FnScope ["machine", "history"] ["machine", "history"] (defScope s_board_of) := ⟨rfl, rfl, rfl, by decide +kernel, rfl, by decide +kernel, by decide +kernel⟩
abbrev N_board_of : List Str := ["machine", "history"]
abbrev T_board_of (P : Program) (w : World) (K : PySem.W.Frag) (mg : Str → Option Value) (base : Heap) : Prop := CalF P w K mg base "board_of" 10 ["machine", "history"] (spF (α := Mach × Hist) (fun a => [eM a.1, eH a.2]) (fun a => VM a.1 ∧ VH 4 a.1.ds.length a.2) (fun a => eN (run a.1 a.2)))
section
variable {P : Program} {w : World} {K : PySem.W.Frag} {mg : Str → Option Value} {base : Heap}
theorem c_board_of (B : Blt mg) (G : Gls mg) (D : DefAt K mg "board_of" s_board_of) (C_boards : T_boards P w K mg base)  : T_board_of P w K mg base := by
  obtain ⟨f, fd, h1, F⟩ := D.ex
  refine ⟨f, fd, h1, F.kp, F.bindsN fun _ _ _ _ _ _ us hl => match us, hl with | [_, _], _ => rfl, ?_⟩
  refine fn_D F sc_board_of (fun _ => rfl) (fun a => [.arg (eM a.1), .arg (eH a.2)]) (fun _ _ => as_ok ⟨aA, aA, trivial⟩) fun ⟨m, g⟩ hp cdv A outer s H E hr => ?_
  try dsimp only at hp
  have c := ctx_of (P := P) (w := w) (K := K) (base := base) (f := f) (cdv := cdv) (outer := outer) (H := H) (E := E) B sc_board_of.nd hr
  exact run_one (run_ret (ev_ixT (i := -1) (ev_call C_boards hr (m, g) hp (eds_cons (ev_var 0 rfl rfl) (eds_one (ev_var 1 rfl rfl)))) (ev_neg ev_int) (by rw [List.map_append]; exact atI_last)) rfl)
end

abbrev s_is_press : Stmt := top 25
theorem sc_is_press : FnScope ["value"] ["value"] (defScope s_is_press) := ⟨rfl, rfl, rfl, by decide +kernel, rfl, by decide +kernel, by decide +kernel⟩
abbrev N_is_press : List Str := ["value"]
abbrev T_is_press (P : Program) (w : World) (K : PySem.W.Frag) (mg : Str → Option Value) (base : Heap) : Prop := CalF P w K mg base "is_press" 4 ["value"] (spF (α := Nat × Nat) (fun a => [eP a]) (fun a => a.1 < 4 ∧ a.2 < 6) (fun a => .bool true))
section
variable {P : Program} {w : World} {K : PySem.W.Frag} {mg : Str → Option Value} {base : Heap}
theorem c_is_press (B : Blt mg) (G : Gls mg) (D : DefAt K mg "is_press" s_is_press) (C_is_sequence : T_is_sequence P w K mg base) (C_is_string : T_is_string P w K mg base) (C_is_below : T_is_below P w K mg base) (PT : Prt K w mg) : T_is_press P w K mg base := by
  obtain ⟨f, fd, h1, F⟩ := D.ex
  refine ⟨f, fd, h1, F.kp, F.bindsN fun _ _ _ _ _ _ us hl => match us, hl with | [_], _ => rfl, ?_⟩
  refine fn_D F sc_is_press (fun _ => rfl) (fun a => [.arg (eP a)]) (fun _ _ => as_ok ⟨aA, trivial⟩) fun ⟨z, d⟩ hp cdv A outer s H E hr => ?_
  try dsimp only at hp
  have c := ctx_of (P := P) (w := w) (K := K) (base := base) (f := f) (cdv := cdv) (outer := outer) (H := H) (E := E) B sc_is_press.nd hr
  refine run_cons (run_if (k := false) (et_w (ew_or (k := false) (k' := false) (et_not (k := true) (et_val (ev_call C_is_sequence hr _ trivial (eds_one (ev_var 0 rfl rfl))))) fun _ => ew_or (k := false) (k' := false) (EvT.is (et_cmp (od_eqi c) (ev_cb ca_lenT c.len boot_len (eds_one (ev_var 0 rfl rfl))) ev_int) rfl) fun _ => ew_or (k := false) (k' := false) (et_not (k := true) (et_val (ev_call C_is_string hr "deed" trivial (eds_one (ev_ixT (i := 0) (ev_var 0 rfl rfl) ev_int rfl))))) fun _ => ew_or1 (et_notParts PT (ev_ixT (i := 0) (ev_var 0 rfl rfl) ev_int rfl)))) (fun z => nomatch z) fun _ => run_nil ?_)
  refine run_cons (run_if (k := false) (et_w (ew_or (k := false) (k' := false) (EvT.is (et_cmp (od_nei c) (ev_cb ca_lenT c.len boot_len (eds_one (ev_var 0 rfl rfl))) (ev_parts PT (ev_ixT (i := 0) (ev_var 0 rfl rfl) ev_int rfl))) rfl) fun _ => ew_or1 (et_not (k := true) (et_val (EvD.is (ev_call C_is_below hr ((z : Int), 4) trivial (eds_cons (ev_ixT (i := 1) (ev_var 0 rfl rfl) ev_int rfl) (eds_one (ev_gint G.hands)))) (bool_t (by have := hp.1; simp; omega))))))) (fun z => nomatch z) fun _ => run_nil ?_)
  exact run_one (run_ret (ev_or (k := false) (k' := true) (EvD.is (ev_cmp (od_eqS c) (ev_ixT (i := 0) (ev_var 0 rfl rfl) ev_int rfl) (ev_gstr G.back1)) (bool_f (by decide +kernel))) fun _ => ev_one (EvD.is (ev_call C_is_below hr ((d : Int), 6) trivial (eds_cons (ev_ixT (i := 2) (ev_var 0 rfl rfl) ev_int rfl) (eds_one (ev_gint G.deeds)))) (bool_t (by have := hp.2; simp; omega)))) rfl)
end

abbrev s_check_press : Stmt := top 26
theorem sc_check_press : FnScope ["value"] ["value"] (defScope s_check_press) := ⟨rfl, rfl, rfl, by decide +kernel, rfl, by decide +kernel, by decide +kernel⟩
abbrev N_check_press : List Str := ["value"]
abbrev T_check_press (P : Program) (w : World) (K : PySem.W.Frag) (mg : Str → Option Value) (base : Heap) : Prop := CalF P w K mg base "check_press" 5 ["value"] (spF (α := Nat × Nat) (fun a => [eP a]) (fun a => a.1 < 4 ∧ a.2 < 6) (fun a => eP a))
section
variable {P : Program} {w : World} {K : PySem.W.Frag} {mg : Str → Option Value} {base : Heap}
theorem c_check_press (B : Blt mg) (G : Gls mg) (D : DefAt K mg "check_press" s_check_press) (C_is_press : T_is_press P w K mg base)  : T_check_press P w K mg base := by
  obtain ⟨f, fd, h1, F⟩ := D.ex
  refine ⟨f, fd, h1, F.kp, F.bindsN fun _ _ _ _ _ _ us hl => match us, hl with | [_], _ => rfl, ?_⟩
  refine fn_D F sc_check_press (fun _ => rfl) (fun a => [.arg (eP a)]) (fun _ _ => as_ok ⟨aA, trivial⟩) fun ⟨z, d⟩ hp cdv A outer s H E hr => ?_
  try dsimp only at hp
  have c := ctx_of (P := P) (w := w) (K := K) (base := base) (f := f) (cdv := cdv) (outer := outer) (H := H) (E := E) B sc_check_press.nd hr
  refine run_cons (run_if (k := false) (et_not (k := true) (et_val (ev_call C_is_press hr (z, d) hp (eds_one (ev_var 0 rfl rfl))))) (fun z => nomatch z) fun _ => run_nil ?_)
  exact run_one (run_ret (ev_ct ca_tupT c.tuple boot_tuple (eds_one (ev_var 0 rfl rfl))) rfl)
end

abbrev s_press_here : Stmt := top 39
theorem sc_press_here : FnScope ["machine", "hands", "press", "told"] ["machine", "hands", "press"] (defScope s_press_here) := ⟨rfl, rfl, rfl, by decide +kernel, rfl, by decide +kernel, by decide +kernel⟩
abbrev N_press_here : List Str := ["machine", "hands", "press", "told"]
abbrev T_press_here (P : Program) (w : World) (K : PySem.W.Frag) (mg : Str → Option Value) (base : Heap) : Prop := CalF P w K mg base "press_here" 6 ["machine", "hands", "press"] (spF (α := Mach × Nat × Nat × Nat) (fun a => [eM a.1, eN a.2.1, eP a.2.2]) (fun a => VM a.1 ∧ VHd a.2.1 ∧ a.2.2.1 < a.2.1 ∧ a.2.2.2 < a.1.ds.length) (fun a => eP a.2.2))
section
variable {P : Program} {w : World} {K : PySem.W.Frag} {mg : Str → Option Value} {base : Heap}
theorem c_press_here (B : Blt mg) (G : Gls mg) (D : DefAt K mg "press_here" s_press_here) (C_check_press : T_check_press P w K mg base)  : T_press_here P w K mg base := by
  obtain ⟨f, fd, h1, F⟩ := D.ex
  refine ⟨f, fd, h1, F.kp, F.bindsN fun _ _ _ _ _ _ us hl => match us, hl with | [_, _, _], _ => rfl, ?_⟩
  refine fn_D F sc_press_here (fun _ => rfl) (fun a => [.arg (eM a.1), .arg (eN a.2.1), .arg (eP a.2.2)]) (fun _ _ => as_ok ⟨aA, aA, aA, trivial⟩) fun ⟨m, h, z, d⟩ hp cdv A outer s H E hr => ?_
  try dsimp only at hp
  have c := ctx_of (P := P) (w := w) (K := K) (base := base) (f := f) (cdv := cdv) (outer := outer) (H := H) (E := E) B sc_press_here.nd hr
  have d6 := hp.1.d6
  have h4 := hp.2.1.2
  have hz := hp.2.2.1
  have hd := hp.2.2.2
  refine run_cons (run_set 3 (.dat (eP (z, d))) c ⟨rfl, ev_call C_check_press hr (z, d) ⟨by show z < 4; omega, by show d < 6; omega⟩ (eds_one (ev_var 2 rfl rfl))⟩ ?_)
  refine run_cons (run_if (k := false) (EvT.is (et_cmp od_ge (ev_ixT (i := 1) (ev_var 3 rfl rfl) ev_int rfl) (ev_var 1 rfl rfl)) (by simp; omega)) (fun z => nomatch z) fun _ => run_nil ?_)
  refine run_cons (run_if (k := false) (et_w (ew_and (k := true) (k' := false) (EvT.is (et_cmp (od_eqS c) (ev_ixT (i := 0) (ev_var 3 rfl rfl) ev_int rfl) (ev_gstr G.deed)) (by decide +kernel)) fun _ => ew_and1 (EvT.is (et_cmp od_ge (ev_ixT (i := 2) (ev_var 3 rfl rfl) ev_int rfl) (ev_cb ca_lenT c.len boot_len (eds_one (ev_ixT (i := 1) (ev_var 0 rfl rfl) ev_int rfl)))) (by rw [List.length_map]; simp; omega)))) (fun z => nomatch z) fun _ => run_nil ?_)
  exact run_one (run_ret (ev_var 3 rfl rfl) rfl)
end

abbrev s_need_press : Stmt := top 41
theorem sc_need_press : FnScope ["machine", "hands", "history", "press", "told"] ["machine", "hands", "history", "press"] (defScope s_need_press) := ⟨rfl, rfl, rfl, by decide +kernel, rfl, by decide +kernel, by decide +kernel⟩
abbrev N_need_press : List Str := ["machine", "hands", "history", "press", "told"]
abbrev T_need_press (P : Program) (w : World) (K : PySem.W.Frag) (mg : Str → Option Value) (base : Heap) : Prop := CalF P w K mg base "need_press" 7 ["machine", "hands", "history", "press"] (spF (α := Mach × Nat × Hist × Nat × Nat) (fun a => [eM a.1, eN a.2.1, eH a.2.2.1, eP a.2.2.2]) (fun a => VM a.1 ∧ VHd a.2.1 ∧ a.2.2.2.1 < a.2.1 ∧ a.2.2.2.2 < a.1.ds.length) (fun a => eP a.2.2.2))
section
variable {P : Program} {w : World} {K : PySem.W.Frag} {mg : Str → Option Value} {base : Heap}
theorem c_need_press (B : Blt mg) (G : Gls mg) (D : DefAt K mg "need_press" s_need_press) (C_press_here : T_press_here P w K mg base)  : T_need_press P w K mg base := by
  obtain ⟨f, fd, h1, F⟩ := D.ex
  refine ⟨f, fd, h1, F.kp, F.bindsN fun _ _ _ _ _ _ us hl => match us, hl with | [_, _, _, _], _ => rfl, ?_⟩
  refine fn_D F sc_need_press (fun _ => rfl) (fun a => [.arg (eM a.1), .arg (eN a.2.1), .arg (eH a.2.2.1), .arg (eP a.2.2.2)]) (fun _ _ => as_ok ⟨aA, aA, aA, aA, trivial⟩) fun ⟨m, h, g, z, d⟩ hp cdv A outer s H E hr => ?_
  try dsimp only at hp
  have c := ctx_of (P := P) (w := w) (K := K) (base := base) (f := f) (cdv := cdv) (outer := outer) (H := H) (E := E) B sc_need_press.nd hr
  refine run_cons (run_set 4 (.dat (eP (z, d))) c ⟨rfl, ev_call C_press_here hr (m, h, z, d) hp (eds_cons (ev_var 0 rfl rfl) (eds_cons (ev_var 1 rfl rfl) (eds_one (ev_var 3 rfl rfl))))⟩ ?_)
  refine run_cons (run_if (k := false) (et_w (ew_and (k := false) (k' := false) (EvT.is (et_cmp (od_eqS c) (ev_ixT (i := 0) (ev_var 4 rfl rfl) ev_int rfl) (ev_gstr G.back1)) (by decide +kernel)) fun z => nomatch z)) (fun z => nomatch z) fun _ => run_nil ?_)
  exact run_one (run_ret (ev_var 4 rfl rfl) rfl)
end

abbrev s_behind : Stmt := top 42
theorem sc_behind : FnScope ["history", "press", "at"] ["history", "press"] (defScope s_behind) := ⟨rfl, rfl, rfl, by decide +kernel, rfl, by decide +kernel, by decide +kernel⟩
abbrev N_behind : List Str := ["history", "press", "at"]
abbrev T_behind (P : Program) (w : World) (K : PySem.W.Frag) (mg : Str → Option Value) (base : Heap) : Prop := CalF P w K mg base "behind" 1 ["history", "press"] (spF (α := Hist × Nat × Nat) (fun a => [eH a.1, eP a.2]) (fun a => a.1.length ≤ 1000) (fun a => eH (a.1 ++ [a.2])))
section
variable {P : Program} {w : World} {K : PySem.W.Frag} {mg : Str → Option Value} {base : Heap}
theorem c_behind (B : Blt mg) (G : Gls mg) (D : DefAt K mg "behind" s_behind)   : T_behind P w K mg base := by
  obtain ⟨f, fd, h1, F⟩ := D.ex
  refine ⟨f, fd, h1, F.kp, F.bindsN fun _ _ _ _ _ _ us hl => match us, hl with | [_, _], _ => rfl, ?_⟩
  refine fn_D F sc_behind (fun _ => rfl) (fun a => [.arg (eH a.1), .arg (eP a.2)]) (fun _ _ => as_ok ⟨aA, aA, trivial⟩) fun ⟨g, z, d⟩ hp cdv A outer s H E hr => ?_
  try dsimp only at hp
  have c := ctx_of (P := P) (w := w) (K := K) (base := base) (f := f) (cdv := cdv) (outer := outer) (H := H) (E := E) B sc_behind.nd hr
  refine run_cons (run_if (k := true) (EvT.is (et_cmp (od_eqS c) (ev_ixT (i := 0) (ev_var 1 rfl rfl) ev_int rfl) (ev_gstr G.deed)) (by decide +kernel)) (fun _ => run_one (run_ret (ev_bin (od_cat (by rw [List.length_map]; show g.length + 1 ≤ _; omega)) (ev_var 0 rfl rfl) (ev_tup (eds_one (ev_tup (eds_cons (ev_ixT (i := 1) (ev_var 1 rfl rfl) ev_int rfl) (eds_one (ev_ixT (i := 2) (ev_var 1 rfl rfl) ev_int rfl))))))) ?_)) fun z => nomatch z)
  show _ = PyData.tuple ((g ++ [(z, d)]).map eL)
  rw [List.map_append]
  rfl
end

abbrev s_pressed : Stmt := top 43
theorem sc_pressed : FnScope ["machine", "hands", "history", "press", "rules", "told"] ["machine", "hands", "history", "press"] (defScope s_pressed) := ⟨rfl, rfl, rfl, by decide +kernel, rfl, by decide +kernel, by decide +kernel⟩
abbrev N_pressed : List Str := ["machine", "hands", "history", "press", "rules", "told"]
abbrev T_pressed (P : Program) (w : World) (K : PySem.W.Frag) (mg : Str → Option Value) (base : Heap) : Prop := CalF P w K mg base "pressed" 9 ["machine", "hands", "history", "press"] (spF (α := Mach × Nat × Hist × Nat × Nat) (fun a => [eM a.1, eN a.2.1, eH a.2.2.1, eP a.2.2.2]) (fun a => VM a.1 ∧ VHd a.2.1 ∧ VH a.2.1 a.1.ds.length a.2.2.1 ∧ a.2.2.2.1 < a.2.1 ∧ a.2.2.2.2 < a.1.ds.length) (fun a => eH (a.2.2.1 ++ [a.2.2.2])))
section
variable {P : Program} {w : World} {K : PySem.W.Frag} {mg : Str → Option Value} {base : Heap}
theorem c_pressed (B : Blt mg) (G : Gls mg) (D : DefAt K mg "pressed" s_pressed) (C_check_machine : T_check_machine P w K mg base) (C_check_history : T_check_history P w K mg base) (C_need_press : T_need_press P w K mg base) (C_behind : T_behind P w K mg base)  : T_pressed P w K mg base := by
  obtain ⟨f, fd, h1, F⟩ := D.ex
  refine ⟨f, fd, h1, F.kp, F.bindsN fun _ _ _ _ _ _ us hl => match us, hl with | [_, _, _, _], _ => rfl, ?_⟩
  refine fn_D F sc_pressed (fun _ => rfl) (fun a => [.arg (eM a.1), .arg (eN a.2.1), .arg (eH a.2.2.1), .arg (eP a.2.2.2)]) (fun _ _ => as_ok ⟨aA, aA, aA, aA, trivial⟩) fun ⟨m, h, g, z, d⟩ hp cdv A outer s H E hr => ?_
  try dsimp only at hp
  have c := ctx_of (P := P) (w := w) (K := K) (base := base) (f := f) (cdv := cdv) (outer := outer) (H := H) (E := E) B sc_pressed.nd hr
  refine run_cons (run_set 4 (.dat (eM m)) c ⟨imm_M m, ev_call C_check_machine hr (false, m) hp.1 (eds_one (ev_var 0 rfl rfl))⟩ ?_)
  refine run_cons (run_set 5 (.dat (eH g)) c ⟨imm_H g, ev_call C_check_history hr (m, h, false, g) ⟨hp.1, hp.2.1, hp.2.2.1⟩ (eds_cons (ev_var 4 rfl rfl) (eds_cons (ev_var 1 rfl rfl) (eds_one (ev_var 2 rfl rfl))))⟩ ?_)
  exact run_one (run_ret (ev_call C_behind hr (g, z, d) (by have := hp.2.2.1.1; show g.length ≤ 1000; omega) (eds_cons (ev_var 5 rfl rfl) (eds_one (ev_call C_need_press hr (m, h, g, z, d) ⟨hp.1, hp.2.1, hp.2.2.2⟩ (eds_cons (ev_var 4 rfl rfl) (eds_cons (ev_var 1 rfl rfl) (eds_cons (ev_var 5 rfl rfl) (eds_one (ev_var 3 rfl rfl))))))))) rfl)
end
end Ow
end

section
set_option linter.all false
set_option autoImplicit false
/-! Tables of histories, plain. -/
namespace Ow
open PySem L2 OwL Om
theorem cutD_take (ds : List PyData) (z : Nat) : cutD ds none (some (z : Int)) = ds.take z := by
  unfold cutD
  rw [HT.sIx_none, HT.sIx_nat, List.drop_zero, Nat.sub_zero]
  by_cases h : z ≤ ds.length
  · rw [Nat.min_eq_left h]
  · rw [Nat.min_eq_right (by omega), List.take_length, List.take_of_length_le (by omega)]
theorem cutD_drop (ds : List PyData) (z : Nat) : cutD ds (some (z : Int)) none = ds.drop z := by
  unfold cutD
  rw [HT.sIx_none, HT.sIx_nat]
  by_cases h : z ≤ ds.length
  · rw [Nat.min_eq_left h, List.take_of_length_le (by rw [List.length_drop]; omega)]
  · rw [Nat.min_eq_right (by omega), List.drop_length, List.drop_eq_nil_of_le (by omega)]
    exact List.take_nil
theorem cutD_mid (ds : List PyData) (a z : Nat) : cutD ds (some (a : Int)) (some (z : Int)) = (ds.take z).drop a := by
  unfold cutD
  rw [HT.sIx_nat, HT.sIx_nat, List.drop_take]
  by_cases h : z ≤ ds.length
  · by_cases h2 : a ≤ ds.length
    · rw [Nat.min_eq_left h, Nat.min_eq_left h2]
    · rw [Nat.min_eq_left h, Nat.min_eq_right (by omega), List.drop_eq_nil_of_le (Nat.le_refl _), List.drop_eq_nil_of_le (by omega)]
      simp
  · rw [Nat.min_eq_right (by omega : ds.length ≤ z)]
    by_cases h2 : a ≤ ds.length
    · rw [Nat.min_eq_left h2, List.take_of_length_le (by rw [List.length_drop]; omega), List.take_of_length_le (by rw [List.length_drop]; omega)]
    · rw [Nat.min_eq_right (by omega), List.drop_eq_nil_of_le (Nat.le_refl _), List.drop_eq_nil_of_le (by omega)]
      simp
/-- one less at a place -/
def lss (v : List Nat) (z : Nat) : List Nat := v.set z (At v z - 1)
theorem At_set {v : List Nat} {z x : Nat} (h : z < v.length) : At (v.set z x) = setN (At v) z x := by
  funext y
  show (v.set z x).getD y 0 = if y = z then x else v.getD y 0
  rw [List.getD_eq_getElem?_getD, List.getD_eq_getElem?_getD, List.getElem?_set]
  by_cases e : z = y
  · subst e
    rw [if_pos rfl, if_pos h, if_pos rfl]
    rfl
  · rw [if_neg e, if_neg (fun q => e q.symm)]
theorem lss_len (v : List Nat) (z : Nat) : (lss v z).length = v.length := by
  unfold lss
  rw [List.length_set]
theorem lss_parts {v : List Nat} {z : Nat} (h : z < v.length) : lss v z = v.take z ++ [At v z - 1] ++ v.drop (z + 1) := by
  unfold lss
  rw [List.set_eq_take_append_cons_drop, if_pos h]
  simp
/-- vectors agree on all that counts -/
theorem Bd_h {f : Nat → Nat → Nat} {h : Nat} {g : Hist} (hg : ∀ l ∈ g, l.1 < h) {n n' : Nat → Nat} (e : ∀ y, y < h → n y = n' y) (b : Nat) : Bd f g n b = Bd f g n' b := by
  apply Bd_min
  intro y
  by_cases hy : y < h
  · rw [e y hy]
  · have : cnt y g = 0 := by
      clear e
      induction g with
      | nil => rfl
      | cons l g ih =>
        rw [cnt_cons, ih fun x hx => hg x (List.mem_cons_of_mem _ hx), if_neg (by have := hg l List.mem_cons_self; omega)]
    rw [this]
    omega
theorem cnt_zero {h : Nat} {g : Hist} (hg : ∀ l ∈ g, l.1 < h) {y : Nat} (hy : h ≤ y) : cnt y g = 0 := by
  induction g with
  | nil => rfl
  | cons l g ih => rw [cnt_cons, ih fun x hx => hg x (List.mem_cons_of_mem _ hx), if_neg (by have := hg l List.mem_cons_self; omega)]
theorem tab_lt {m : Mach} (v : VM m) : ∀ (g : Hist) (n : Nat → Nat) (b : Nat), (∀ l ∈ g, l.2 < m.ds.length) → b < m.b → Bd m.f g n b < m.b
  | [], n, b, _, hb => hb
  | l :: g, n, b, hg, hb => by
    rw [Bd_cons]
    refine tab_lt v g _ _ (fun x hx => hg x (List.mem_cons_of_mem _ hx)) ?_
    by_cases q : 0 < n l.1
    · rw [if_pos q]
      obtain ⟨r, h1, h2, h3, h4⟩ := v.f_at (hg l List.mem_cons_self) hb
      exact h3
    · rw [if_neg q]
      exact hb
/-- a deed more -/
theorem Bd_snoc (f : Nat → Nat → Nat) (g : Hist) (l : Nat × Nat) (n : Nat → Nat) (b : Nat) : Bd f (g ++ [l]) n b = if cnt l.1 g < n l.1 then f l.2 (Bd f g n b) else Bd f g n b := by
  rw [Bd_app, Bd_cons]
  show (if 0 < n l.1 - cnt l.1 g then f l.2 (Bd f g n b) else Bd f g n b) = _
  by_cases h : cnt l.1 g < n l.1
  · rw [if_pos h, if_pos (by omega)]
  · rw [if_neg h, if_neg (by omega)]
theorem grown_counts (h : Nat) (g : Hist) (l : Nat × Nat) : counts h (g ++ [l]) = (en (counts h g)).map fun x => if x.1 = l.1 then x.2 + 1 else x.2 := by
  apply List.ext_getElem?
  intro i
  unfold en counts
  rw [List.getElem?_map, List.getElem?_map, List.getElem?_mapIdx, List.getElem?_map]
  by_cases hi : i < h
  · rw [List.getElem?_range hi]
    show some (cnt i (g ++ [l])) = some (if i = l.1 then cnt i g + 1 else cnt i g)
    rw [cnt_app, cnt_one]
    by_cases e : i = l.1
    · rw [if_pos e, if_pos e.symm]
    · rw [if_neg e, if_neg (fun q => e q.symm)]
      rfl
  · rw [List.getElem?_eq_none (by simp; omega)]
    rfl
theorem Fits.at {v cs : List Nat} (h : Fits v cs) (i : Nat) : At v i ≤ At cs i := h.2 i
theorem fits_of {h : Nat} {g : Hist} {v : List Nat} (hl : v.length = h) (hv : ∀ y, y < h → At v y ≤ cnt y g) : Fits v (counts h g) := ⟨by rw [hl, counts_len], fun i => by
  by_cases hi : i < h
  · rw [counts_at hi]
    exact hv i hi
  · rw [At_out (by omega)]
    exact Nat.zero_le _⟩
theorem Fits.cnt {h : Nat} {g : Hist} {v : List Nat} (k : Fits v (counts h g)) {y : Nat} (hy : y < h) : At v y ≤ cnt y g := by
  have := k.2 y
  rw [counts_at hy] at this
  exact this
theorem Fits.len {h : Nat} {g : Hist} {v : List Nat} (k : Fits v (counts h g)) : v.length = h := by
  have := k.1
  rw [counts_len] at this
  exact this
theorem grown_same {m : Mach} {h : Nat} {g : Hist} {l : Nat × Nat} {v : List Nat} (hz : l.1 < h) (k : Fits v (counts h (g ++ [l]))) (hv : At v l.1 < cnt l.1 g + 1) : Fits v (counts h g) ∧ tab m (g ++ [l]) v = tab m g v := by
  refine ⟨fits_of k.len fun y hy => ?_, ?_⟩
  · have := k.cnt hy
    rw [cnt_app, cnt_one] at this
    by_cases e : l.1 = y
    · subst e
      omega
    · rw [if_neg e] at this
      exact this
  · unfold tab
    rw [Bd_snoc, if_neg (by omega)]
theorem grown_more {m : Mach} {h : Nat} {g : Hist} {l : Nat × Nat} {v : List Nat} (hz : l.1 < h) (k : Fits v (counts h (g ++ [l]))) (hv : ¬ At v l.1 < cnt l.1 g + 1) : Fits (lss v l.1) (counts h g) ∧ tab m (g ++ [l]) v = m.f l.2 (tab m g (lss v l.1)) ∧ 1 ≤ At v l.1 := by
  have hvl : l.1 < v.length := by rw [k.len]; exact hz
  have hle := k.cnt hz
  rw [cnt_app, cnt_one, if_pos rfl] at hle
  refine ⟨fits_of (by rw [lss_len]; exact k.len) fun y hy => ?_, ?_, by omega⟩
  · unfold lss
    rw [At_set hvl]
    by_cases e : y = l.1
    · subst e
      rw [setN_same]
      omega
    · rw [setN_ne _ _ e]
      have := k.cnt hy
      rw [cnt_app, cnt_one, if_neg (fun q => e q.symm)] at this
      exact this
  · unfold tab lss
    rw [Bd_snoc, if_pos (by omega), At_set hvl]
    congr 1
    apply Bd_min
    intro y
    by_cases e : y = l.1
    · subst e
      rw [setN_same]
      omega
    · rw [setN_ne _ _ e]
end Ow
end

section
set_option linter.all false
set_option maxRecDepth 100000
set_option maxHeartbeats 4000000
set_option autoImplicit false
/-! Defs: vectors, places. -/
namespace Ow
open PySem L2 OwL Om
open PyProof.Rows (envOfC)

structure CsOk (cs : List Nat) : Prop where
  pos : 1 ≤ cs.length
  four : cs.length ≤ 4
  sum : cs.sum ≤ 10
theorem CsOk.fits {v cs : List Nat} (c : CsOk cs) (h : Fits v cs) : CsOk v := ⟨by rw [h.1]; exact c.pos, by rw [h.1]; exact c.four, Nat.le_trans h.sum c.sum⟩
theorem CsOk.counts {h : Nat} {g : Hist} (hh : VHd h) (hg : g.length ≤ 10) : CsOk (counts h g) := ⟨by rw [counts_len]; have := hh.1; omega, by rw [counts_len]; exact hh.2, Nat.le_trans (counts_sum_le h g) hg⟩
theorem GTo.forget {X : Cx} {tg : Expr} {it : Itm} {js : List Nat} {S S1 : List Sl} (i : Nat) (h : GTo X tg it js S S1) : GTo X tg it js S (S1.set i Sl.any) := fun A B H σ v E iv Q q => h A B H σ v E iv Q fun σ' E' w => q σ' E'.forget' w
theorem flat_eq (F : List (List Nat)) (k : Nat) : (F.flatMap fun v => (List.range (k + 1)).map fun j => eNs (v ++ [j])) = (vstep F k).map eNs := by
  unfold vstep
  rw [List.map_flatMap]
  congr 1
  funext v
  rw [List.map_map]
  rfl
theorem zip2_N (v cs : List Nat) : zip2 (v.map eN) (cs.map eN) = (v.zip cs).map fun z => .tup [.dat (eN z.1), .dat (eN z.2)] := by
  unfold zip2
  rw [List.zip_map, List.map_map]
  rfl
theorem all_true {α : Type} (l : List α) : ((l.map fun _ => true).all id) = true := List.all_eq_true.mpr fun b hb => by
  obtain ⟨_, _, rfl⟩ := List.mem_map.mp hb
  rfl
theorem zip_fits {v cs : List Nat} (h : Fits v cs) : ∀ z ∈ v.zip cs, z.1 ≤ z.2 := fun z hz => by
  obtain ⟨i, hi⟩ := List.mem_iff_getElem?.mp hz
  obtain ⟨h1, h2⟩ := List.getElem?_zip_eq_some.mp hi
  have := h.2 i
  rw [At_of h1, At_of h2] at this
  exact this
theorem zip_le {v cs : List Nat} : ∀ z ∈ v.zip cs, z.2 ≤ cs.sum := fun z hz => by
  obtain ⟨i, hi⟩ := List.mem_iff_getElem?.mp hz
  obtain ⟨h1, h2⟩ := List.getElem?_zip_eq_some.mp hi
  have := At_le_sum cs i
  rw [At_of h2] at this
  exact this
theorem en_N (cs : List Nat) : ((cs.map eN).mapIdx fun i d => Itm.tup [.dat (.int (i : Nat)), .dat d]) = (en cs).map fun x => Itm.tup [.dat (eN x.1), .dat (eN x.2)] := en_map _ _ _
theorem eqN (a b : Nat) : decide (((a : Nat) : Int) = ((b : Nat) : Int)) = decide (a = b) := decide_eq_decide.mpr (by omega)
theorem ltN (a b : Nat) : decide (((a : Nat) : Int) < ((b : Nat) : Int)) = decide (a < b) := decide_eq_decide.mpr (by omega)
def grownAt (z : Nat) (x : Nat × Nat) : Nat := if x.1 = z then x.2 + 1 else x.2
def lessAt (z : Nat) (x : Nat × Nat) : Nat := if x.1 = z then x.2 - 1 else x.2
theorem lss_en {cs : List Nat} {z : Nat} (hz : z < cs.length) : lss cs z = (en cs).map (lessAt z) := by
  apply List.ext_getElem?
  intro i
  unfold lss en lessAt
  rw [List.getElem?_map, List.getElem?_mapIdx, List.getElem?_set]
  by_cases e : z = i
  · subst e
    rw [if_pos rfl, if_pos hz, At_get hz]
    show _ = some (if z = z then At cs z - 1 else At cs z)
    rw [if_pos rfl]
  · rw [if_neg e]
    cases q : cs[i]? with
    | none => rfl
    | some y =>
      show some y = some (if i = z then y - 1 else y)
      rw [if_neg (fun k => e k.symm)]


abbrev s_are_counts : Stmt := top 45
theorem sc_are_counts : FnScope ["value", "many"] ["value"] (defScope s_are_counts) := ⟨rfl, rfl, rfl, by decide +kernel, rfl, by decide +kernel, by decide +kernel⟩
abbrev N_are_counts : List Str := ["value", "many"]
abbrev T_are_counts (P : Program) (w : World) (K : PySem.W.Frag) (mg : Str → Option Value) (base : Heap) : Prop := CalF P w K mg base "are_counts" 3 ["value"] (spF (α := List Nat) (fun cs => [eNs cs]) (CsOk) (fun _ => .bool true))
section
variable {P : Program} {w : World} {K : PySem.W.Frag} {mg : Str → Option Value} {base : Heap}
theorem c_are_counts (B : Blt mg) (G : Gls mg) (D : DefAt K mg "are_counts" s_are_counts) (C_is_sequence : T_is_sequence P w K mg base) (C_is_number : T_is_number P w K mg base)  : T_are_counts P w K mg base := by
  obtain ⟨f, fd, h1, F⟩ := D.ex
  refine ⟨f, fd, h1, F.kp, F.bindsN fun _ _ _ _ _ _ us hl => match us, hl with | [_], _ => rfl, ?_⟩
  refine fn_D F sc_are_counts (fun _ => rfl) (fun cs => [.arg (eNs cs)]) (fun _ _ => as_ok ⟨aA, trivial⟩) fun cs hp cdv A outer s H E hr => ?_
  try dsimp only at hp
  have c := ctx_of (P := P) (w := w) (K := K) (base := base) (f := f) (cdv := cdv) (outer := outer) (H := H) (E := E) B sc_are_counts.nd hr
  have h1 := hp.pos
  have h4 := hp.four
  refine run_one (run_ret (ev_and (k := true) (k' := true) (ev_call C_is_sequence hr _ trivial (eds_one (ev_var 0 rfl rfl))) fun _ => ev_and (k := true) (k' := true) (EvD.is (ev_chain ev_int (ev_cb ca_lenT c.len boot_len (eds_one (ev_var 0 rfl rfl))) (ev_gint G.hands)) (bool_t (by rw [List.length_map]; simp; omega))) fun _ => ev_one (EvD.is (ev_cb (ca_all c (bs := cs.map fun _ => true)) c.all boot_all (eds_one (EvN.toD (ev_lca c [("many", 1)] rfl cs (fun x => .one (.dat (eN x))) [1] (fun x => [_, .dat (eN x)]) (fun _ => .bool true) (it_tup (ev_var 0 rfl rfl) (imms_N cs)) (dats_map eN cs) ?_ (by omega) (by decide) (fun x hx s H C cl fp => g_name 1 c.nd) fun x hx => ⟨rfl, fun s H C cl fp => EvD.is (ev_call C_is_number hr (x : Int) trivial (eds_one (ev_var 1 rfl rfl))) (bool_t (by simp))⟩)))) (bool_t (all_true cs)))) rfl)
  rw [List.map_map]
  rfl
end

abbrev s_need_counts : Stmt := top 46
theorem sc_need_counts : FnScope ["value"] ["value"] (defScope s_need_counts) := ⟨rfl, rfl, rfl, by decide +kernel, rfl, by decide +kernel, by decide +kernel⟩
abbrev N_need_counts : List Str := ["value"]
abbrev T_need_counts (P : Program) (w : World) (K : PySem.W.Frag) (mg : Str → Option Value) (base : Heap) : Prop := CalF P w K mg base "need_counts" 4 ["value"] (spF (α := List Nat) (fun cs => [eNs cs]) (CsOk) (fun cs => eNs cs))
section
variable {P : Program} {w : World} {K : PySem.W.Frag} {mg : Str → Option Value} {base : Heap}
theorem c_need_counts (B : Blt mg) (G : Gls mg) (D : DefAt K mg "need_counts" s_need_counts) (C_are_counts : T_are_counts P w K mg base)  : T_need_counts P w K mg base := by
  obtain ⟨f, fd, h1, F⟩ := D.ex
  refine ⟨f, fd, h1, F.kp, F.bindsN fun _ _ _ _ _ _ us hl => match us, hl with | [_], _ => rfl, ?_⟩
  refine fn_D F sc_need_counts (fun _ => rfl) (fun cs => [.arg (eNs cs)]) (fun _ _ => as_ok ⟨aA, trivial⟩) fun cs hp cdv A outer s H E hr => ?_
  try dsimp only at hp
  have c := ctx_of (P := P) (w := w) (K := K) (base := base) (f := f) (cdv := cdv) (outer := outer) (H := H) (E := E) B sc_need_counts.nd hr
  refine run_cons (run_if (k := false) (et_not (k := true) (et_val (ev_call C_are_counts hr cs hp (eds_one (ev_var 0 rfl rfl))))) (fun z => nomatch z) fun _ => run_nil ?_)
  exact run_one (run_ret (ev_ct ca_tupT c.tuple boot_tuple (eds_one (ev_var 0 rfl rfl))) rfl)
end

abbrev s_vectors : Stmt := top 47
theorem sc_vectors : FnScope ["counts", "found", "many", "vector", "here"] ["counts"] (defScope s_vectors) := ⟨rfl, rfl, rfl, by decide +kernel, rfl, by decide +kernel, by decide +kernel⟩
abbrev N_vectors : List Str := ["counts", "found", "many", "vector", "here"]
abbrev T_vectors (P : Program) (w : World) (K : PySem.W.Frag) (mg : Str → Option Value) (base : Heap) : Prop := CalF P w K mg base "vectors" 5 ["counts"] (spF (α := List Nat) (fun cs => [eNs cs]) (CsOk) (fun cs => .tuple ((vecs cs).map eNs)))
section
variable {P : Program} {w : World} {K : PySem.W.Frag} {mg : Str → Option Value} {base : Heap}
theorem c_vectors (B : Blt mg) (G : Gls mg) (D : DefAt K mg "vectors" s_vectors) (C_need_counts : T_need_counts P w K mg base)  : T_vectors P w K mg base := by
  obtain ⟨f, fd, h1, F⟩ := D.ex
  refine ⟨f, fd, h1, F.kp, F.bindsN fun _ _ _ _ _ _ us hl => match us, hl with | [_], _ => rfl, ?_⟩
  refine fn_D F sc_vectors (fun _ => rfl) (fun cs => [.arg (eNs cs)]) (fun _ _ => as_ok ⟨aA, trivial⟩) fun cs hp cdv A outer s H E hr => ?_
  try dsimp only at hp
  have c := ctx_of (P := P) (w := w) (K := K) (base := base) (f := f) (cdv := cdv) (outer := outer) (H := H) (E := E) B sc_vectors.nd hr
  have h4 := hp.four
  refine run_cons (run_set 1 (.lst ([[]].map eNs)) c ⟨rfl, ev_lst (eds_one (ev_tup eds_nil))⟩ ?_)
  refine run_cons (run_for c (items := cs.map fun l => .one (.dat (eN l))) (S0 := [.arg (eNs cs), .lst ((vecs []).map eNs), .any, .any, .any]) (S' := [.arg (eNs cs), .lst ((vecs cs).map eNs), .any, .any, .any]) (dats_map eN cs ▸ it_tup (ev_call C_need_counts hr cs hp (eds_one (ev_var 0 rfl rfl))) (imms_N cs)) (fun _ _ _ _ E => E) (for_run (fun l => .one (.dat (eN l))) (fun u => [.arg (eNs cs), .lst ((vecs u).map eNs), .any, .any, .any]) cs fun u k v e => ⟨[2], _, g_name 2 c.nd, ?_⟩) ?_)
  · have hsum : (u ++ [k]).sum ≤ 10 := by
      have := hp.sum
      rw [← e] at this
      have q := sum_le_app (u ++ [k]) v
      rw [List.append_assoc] at q
      exact Nat.le_trans q this
    have hk : k ≤ 10 := by rw [sum_snoc] at hsum; omega
    have hlen := vecs_1024 hsum
    have hu : u.length ≤ 4 := by have := congrArg List.length e; simp at this; omega
    have hz : ((vecs u).flatMap fun v => (List.range (k + 1)).map fun j => eNs (v ++ [j])).length < 100000 := by
      rw [flat_eq, List.length_map, ← vecs_snoc]
      omega
    refine run_one (run_setLc2 1 c [("vector", 3), ("here", 4)] [4] rfl (vecs u) (fun v => .one (.dat (eNs v))) [3] [4] (fun v => [_, .any, .dat (eN k), .dat (eNs v), .any]) (fun _ => k + 1) (fun v j => [_, .any, .dat (eN k), .dat (eNs v), .dat (eN j)]) (fun v j => eNs (v ++ [j])) (it_own 1 rfl) (dats_map eNs _) ?_ (by decide) (by decide) (by decide) (fun v hv s H C cl fp => GTo.forget 1 (g_name 3 c.blk.nd)) (fun v hv s H C cl fp => ev_bin od_add (ev_var 2 rfl rfl) ev_int) (fun _ _ => by omega) (fun v hv j hj s H C cl fp => g_name 4 c.blk.nd) (fun v hv j hj => ⟨imm_Ns _, fun s H C cl fp => EvD.is (ev_bin (od_cat ?_) (ev_var 3 rfl rfl) (ev_tup (eds_one (ev_var 4 rfl rfl)))) ?_⟩) hz ⟨[2, 3, 4], ?_⟩)
    · intro b _ j ds
      match j with
      | 0 => exact nofun
      | 1 => exact nofun
      | 2 => exact nofun
      | 3 => exact nofun
      | 4 => exact nofun
      | n + 5 => exact nofun
    · have := ((mem_vecs u v).mp hv).1
      rw [List.length_map]
      show v.length + 1 ≤ _
      omega
    · show PyData.tuple (v.map eN ++ [eN j]) = PyData.tuple ((v ++ [j]).map eN)
      rw [List.map_append]
      rfl
    · rw [flat_eq, ← vecs_snoc]
      rfl
  · exact run_one (run_ret (ev_ct ca_tupL c.tuple boot_tuple (eds_one (ev_var 1 rfl rfl))) rfl)
end

abbrev s_is_vector : Stmt := top 48
theorem sc_is_vector : FnScope ["counts", "value", "here", "many"] ["counts", "value"] (defScope s_is_vector) := ⟨rfl, rfl, rfl, by decide +kernel, rfl, by decide +kernel, by decide +kernel⟩
abbrev N_is_vector : List Str := ["counts", "value", "here", "many"]
abbrev T_is_vector (P : Program) (w : World) (K : PySem.W.Frag) (mg : Str → Option Value) (base : Heap) : Prop := CalF P w K mg base "is_vector" 4 ["counts", "value"] (spF (α := List Nat × List Nat) (fun a => [eNs a.1, eNs a.2]) (fun a => CsOk a.1 ∧ Fits a.2 a.1) (fun _ => .bool true))
section
variable {P : Program} {w : World} {K : PySem.W.Frag} {mg : Str → Option Value} {base : Heap}
theorem c_is_vector (B : Blt mg) (G : Gls mg) (D : DefAt K mg "is_vector" s_is_vector) (C_is_sequence : T_is_sequence P w K mg base) (C_is_below : T_is_below P w K mg base)  : T_is_vector P w K mg base := by
  obtain ⟨f, fd, h1, F⟩ := D.ex
  refine ⟨f, fd, h1, F.kp, F.bindsN fun _ _ _ _ _ _ us hl => match us, hl with | [_, _], _ => rfl, ?_⟩
  refine fn_D F sc_is_vector (fun _ => rfl) (fun a => [.arg (eNs a.1), .arg (eNs a.2)]) (fun _ _ => as_ok ⟨aA, aA, trivial⟩) fun ⟨cs, v⟩ hp cdv A outer s H E hr => ?_
  try dsimp only at hp
  have c := ctx_of (P := P) (w := w) (K := K) (base := base) (f := f) (cdv := cdv) (outer := outer) (H := H) (E := E) B sc_is_vector.nd hr
  have h4 := hp.1.four
  have hl := hp.2.1
  refine run_cons (run_if (k := false) (et_w (ew_or (k := false) (k' := false) (et_not (k := true) (et_val (ev_call C_is_sequence hr _ trivial (eds_one (ev_var 1 rfl rfl))))) fun _ => ew_or1 (EvT.is (et_cmp (od_nei c) (ev_cb ca_lenT c.len boot_len (eds_one (ev_var 1 rfl rfl))) (ev_cb ca_lenT c.len boot_len (eds_one (ev_var 0 rfl rfl)))) (by rw [List.length_map, List.length_map, hl]; simp)))) (fun z => nomatch z) fun _ => run_nil ?_)
  refine run_one (run_ret (EvD.is (ev_cb (ca_all c (bs := (v.zip cs).map fun _ => true)) c.all boot_all (eds_one (EvN.toD (ev_lca c [("here", 2), ("many", 3)] rfl (v.zip cs) (fun x => .tup [.dat (eN x.1), .dat (eN x.2)]) [2, 3] (fun x => [_, _, .dat (eN x.1), .dat (eN x.2)]) (fun _ => .bool true) (it_zip2 c (ev_var 1 rfl rfl) (ev_var 0 rfl rfl) (by rw [List.length_map, List.length_map]; exact hl) (imms_N v) (imms_N cs)) (zip2_N v cs) ?_ (by rw [List.length_zip]; omega) (by decide) (fun x hx s H C cl fp => g_tup2 2 3 c.blk) fun x hx => ⟨rfl, fun s H C cl fp => EvD.is (ev_call C_is_below hr ((x.1 : Int), (x.2 : Int) + 1) trivial (eds_cons (ev_var 2 rfl rfl) (eds_one (ev_bin od_add (ev_var 3 rfl rfl) ev_int)))) (bool_t (by have := zip_fits hp.2 x hx; simp; omega))⟩)))) (bool_t (all_true _))) rfl)
  rw [List.map_map]
  rfl
end

abbrev s_place_of : Stmt := top 49
theorem sc_place_of : FnScope ["counts", "vector", "told", "found", "here", "many"] ["counts", "vector"] (defScope s_place_of) := ⟨rfl, rfl, rfl, by decide +kernel, rfl, by decide +kernel, by decide +kernel⟩
abbrev N_place_of : List Str := ["counts", "vector", "told", "found", "here", "many"]
abbrev T_place_of (P : Program) (w : World) (K : PySem.W.Frag) (mg : Str → Option Value) (base : Heap) : Prop := CalF P w K mg base "place_of" 5 ["counts", "vector"] (spF (α := List Nat × List Nat) (fun a => [eNs a.1, eNs a.2]) (fun a => CsOk a.1 ∧ Fits a.2 a.1) (fun a => eN (place a.1 a.2)))
section
variable {P : Program} {w : World} {K : PySem.W.Frag} {mg : Str → Option Value} {base : Heap}
theorem c_place_of (B : Blt mg) (G : Gls mg) (D : DefAt K mg "place_of" s_place_of) (C_need_counts : T_need_counts P w K mg base) (C_is_vector : T_is_vector P w K mg base)  : T_place_of P w K mg base := by
  obtain ⟨f, fd, h1, F⟩ := D.ex
  refine ⟨f, fd, h1, F.kp, F.bindsN fun _ _ _ _ _ _ us hl => match us, hl with | [_, _], _ => rfl, ?_⟩
  refine fn_D F sc_place_of (fun _ => rfl) (fun a => [.arg (eNs a.1), .arg (eNs a.2)]) (fun _ _ => as_ok ⟨aA, aA, trivial⟩) fun ⟨cs, v⟩ hp cdv A outer s H E hr => ?_
  try dsimp only at hp
  have c := ctx_of (P := P) (w := w) (K := K) (base := base) (f := f) (cdv := cdv) (outer := outer) (H := H) (E := E) B sc_place_of.nd hr
  have h4 := hp.1.four
  have hl := hp.2.1
  refine run_cons (run_set 2 (.dat (eNs cs)) c ⟨imm_Ns cs, ev_call C_need_counts hr cs hp.1 (eds_one (ev_var 0 rfl rfl))⟩ ?_)
  refine run_cons (run_if (k := false) (et_not (k := true) (et_val (ev_call C_is_vector hr (cs, v) hp (eds_cons (ev_var 2 rfl rfl) (eds_one (ev_var 1 rfl rfl)))))) (fun z => nomatch z) fun _ => run_nil ?_)
  refine run_cons (run_set 3 (.dat (eN 0)) c ⟨rfl, ev_int⟩ ?_)
  refine run_cons (run_for c (S0 := [.arg (eNs cs), .arg (eNs v), .dat (eNs cs), .dat (eN 0), .any, .any]) (S' := [.arg (eNs cs), .arg (eNs v), .dat (eNs cs), .dat (eN (place cs v)), .any, .any]) (zip2_N v cs ▸ it_zip2 c (ev_var 1 rfl rfl) (ev_var 2 rfl rfl) (by rw [List.length_map, List.length_map]; exact hl) (imms_N v) (imms_N cs)) (fun _ _ _ _ E => E) (for_run (fun z => .tup [.dat (eN z.1), .dat (eN z.2)]) (fun u => [.arg (eNs cs), .arg (eNs v), .dat (eNs cs), .dat (eN (u.foldl (fun a z => a * (z.2 + 1) + z.1) 0)), .any, .any]) (v.zip cs) fun u k t e => ⟨[4, 5], _, g_tup2 4 5 c, ?_⟩) ?_)
  · have hk : k.2 ≤ 10 := Nat.le_trans (zip_le k (by rw [← e]; simp)) hp.1.sum
    refine run_one (run_set 3 (.dat (eN (u.foldl (fun a z => a * (z.2 + 1) + z.1) 0 * (k.2 + 1) + k.1))) c ⟨rfl, EvD.is (ev_bin od_add (ev_bin (od_mul (.inr ⟨by omega, by omega⟩)) (ev_var 3 rfl rfl) (ev_bin od_add (ev_var 5 rfl rfl) ev_int)) (ev_var 4 rfl rfl)) rfl⟩ ⟨[4, 5], ?_⟩)
    rw [List.foldl_append]
    rfl
  · exact run_one (run_ret (ev_var 3 rfl rfl) rfl)
end
end Ow
end

section
set_option linter.all false
set_option maxRecDepth 100000
set_option maxHeartbeats 4000000
set_option autoImplicit false
/-! Defs: tables. -/
namespace Ow
open PySem L2 OwL Om
open PyProof.Rows (envOfC)

def eB (cs : List Nat) (b : List Nat → Nat) : PyData := .tuple ((vecs cs).map fun v => eN (b v))
theorem imm_B (cs : List Nat) (b : List Nat → Nat) : imm (eB cs b) = true := imms_map fun _ _ => rfl
theorem eB_N (cs : List Nat) (b : List Nat → Nat) : eB cs b = .tuple (((vecs cs).map b).map eN) := by
  unfold eB
  rw [List.map_map]
  rfl
theorem imms_B (cs : List Nat) (b : List Nat → Nat) : imms ((vecs cs).map fun v => eN (b v)) = true := imms_map fun _ _ => rfl
theorem eT_eq (cs : List Nat) (b : List Nat → Nat) : eT cs b = .tuple [eNs cs, eB cs b] := rfl
/-- a table's parts -/
def TbOk (cs : List Nat) (b : List Nat → Nat) (n : Nat) : Prop := CsOk cs ∧ ∀ v ∈ vecs cs, b v < n
theorem TbOk.mono {cs : List Nat} {b : List Nat → Nat} {n k : Nat} (h : TbOk cs b n) (hn : n ≤ k) : TbOk cs b k := ⟨h.1, fun v hv => Nat.lt_of_lt_of_le (h.2 v hv) hn⟩
theorem eT_congr {cs : List Nat} {b b' : List Nat → Nat} (h : ∀ v, Fits v cs → b v = b' v) : eT cs b = eT cs b' := by
  have e : (vecs cs).map (fun v => eN (b v)) = (vecs cs).map fun v => eN (b' v) := List.map_congr_left fun v hv => by rw [h v ((mem_vecs cs v).mp hv)]
  unfold eT
  rw [e]
theorem atI_B {cs : List Nat} {b : List Nat → Nat} {v : List Nat} (h : Fits v cs) : atI ((vecs cs).map fun v => eN (b v)) ((place cs v : Nat) : Int) = some (eN (b v)) := atI_map (f := fun v => eN (b v)) (vecs_place cs v h)
theorem atI_N {cs : List Nat} {z : Nat} (h : z < cs.length) : atI (cs.map eN) (z : Int) = some (eN (At cs z)) := atI_map (At_get h)
section
variable {X : Cx} {S : List Sl} {a b e : Expr} {pos : Pos}
theorem ev_N {v : List Nat} {z : Nat} (ha : EvD X a S (eNs v)) (hb : EvD X b S (eN z)) (h : z < v.length) (hs : PlainIx b := by intro _ _; rfl) : EvD X (.Subscript a b pos) S (eN (At v z)) := ev_ixT ha hb (atI_N h) hs
end
theorem len_N (ns : List Nat) : PyData.int (((ns.map eN).length : Nat) : Int) = eN ns.length := by
  rw [List.length_map]
  rfl
theorem cutD_len (ds : List PyData) (lo hi : Option Int) : (cutD ds lo hi).length ≤ ds.length := by
  unfold cutD
  rw [List.length_take, List.length_drop]
  omega
theorem lss_data {v : List Nat} {z : Nat} (hz : z < v.length) (h1 : 1 ≤ At v z) : PyData.tuple (cutD (v.map eN) none (some ((z : Nat) : Int)) ++ [.int (((At v z : Nat) : Int) - 1)] ++ cutD (v.map eN) (some (((z : Nat) : Int) + 1)) none) = eNs (lss v z) := by
  have e1 : PyData.int (((At v z : Nat) : Int) - 1) = eN (At v z - 1) := congrArg PyData.int (by omega)
  rw [cutD_take, show ((z : Nat) : Int) + 1 = ((z + 1 : Nat) : Int) from rfl, cutD_drop, lss_parts hz, e1, ← List.map_take, ← List.map_drop]
  unfold eNs
  rw [List.map_append, List.map_append]
  rfl
theorem tab_ok {m : Mach} {h : Nat} {g : Hist} (hm : VM m) (hh : VHd h) (hg : VH h m.ds.length g) : TbOk (counts h g) (tab m g) m.b := ⟨CsOk.counts hh hg.1, fun v _ => tab_lt hm g _ _ (fun l hl => (hg.2 l hl).2) hm.s⟩


abbrev s_check_part : Stmt := top 50
theorem sc_check_part : FnScope ["value", "boards", "size", "many", "one"] ["value", "boards"] (defScope s_check_part) := ⟨rfl, rfl, rfl, by decide +kernel, rfl, by decide +kernel, by decide +kernel⟩
abbrev N_check_part : List Str := ["value", "boards", "size", "many", "one"]
abbrev T_check_part (P : Program) (w : World) (K : PySem.W.Frag) (mg : Str → Option Value) (base : Heap) : Prop := CalF P w K mg base "check_part" 5 ["value", "boards"] (spF (α := List Nat × (List Nat → Nat) × Nat) (fun a => [eT a.1 a.2.1, eN a.2.2]) (fun a => TbOk a.1 a.2.1 a.2.2) (fun a => eT a.1 a.2.1))
section
variable {P : Program} {w : World} {K : PySem.W.Frag} {mg : Str → Option Value} {base : Heap}
theorem c_check_part (B : Blt mg) (G : Gls mg) (D : DefAt K mg "check_part" s_check_part) (C_is_sequence : T_is_sequence P w K mg base) (C_are_counts : T_are_counts P w K mg base) (C_is_below : T_is_below P w K mg base)  : T_check_part P w K mg base := by
  obtain ⟨f, fd, h1, F⟩ := D.ex
  refine ⟨f, fd, h1, F.kp, F.bindsN fun _ _ _ _ _ _ us hl => match us, hl with | [_, _], _ => rfl, ?_⟩
  refine fn_D F sc_check_part (fun _ => rfl) (fun a => [.arg (eT a.1 a.2.1), .arg (eN a.2.2)]) (fun _ _ => as_ok ⟨aA, aA, trivial⟩) fun ⟨cs, b, n⟩ hp cdv A outer s H E hr => ?_
  try dsimp only at hp
  have c := ctx_of (P := P) (w := w) (K := K) (base := base) (f := f) (cdv := cdv) (outer := outer) (H := H) (E := E) B sc_check_part.nd hr
  have h4 := hp.1.four
  have hsz := vecs_1024 hp.1.sum
  have iv0 : ∀ {X : Cx} {S : List Sl} {p p2 p3 : Pos} {k : Nat}, EvD X (.Name "value" p) S (eT cs b) → EvD X (.Subscript (.Name "value" p) (.Constant (.int 0) k p2) p3) S (eNs cs) := fun h => ev_ixT (i := 0) h ev_int rfl
  have iv1 : ∀ {X : Cx} {S : List Sl} {p p2 p3 : Pos} {k : Nat}, EvD X (.Name "value" p) S (eT cs b) → EvD X (.Subscript (.Name "value" p) (.Constant (.int 1) k p2) p3) S (.tuple ((vecs cs).map fun v => eN (b v))) := fun h => ev_ixT (i := 1) h ev_int rfl
  refine run_cons (run_if (k := false) (et_w (ew_or (k := false) (k' := false) (et_not (k := true) (et_val (ev_call C_is_sequence hr _ trivial (eds_one (ev_var 0 rfl rfl))))) fun _ => ew_or1 (EvT.is (et_cmp (od_nei c) (ev_cb ca_lenT c.len boot_len (eds_one (ev_var 0 rfl rfl))) ev_int) rfl))) (fun z => nomatch z) fun _ => run_nil ?_)
  refine run_cons (run_if (k := false) (et_not (k := true) (et_val (ev_call C_are_counts hr cs hp.1 (eds_one (iv0 (ev_var 0 rfl rfl)))))) (fun z => nomatch z) fun _ => run_nil ?_)
  refine run_cons (run_set 2 (.dat (eN 1)) c ⟨rfl, ev_int⟩ ?_)
  refine run_cons (run_for c (items := cs.map fun l => .one (.dat (eN l))) (S0 := [.arg (eT cs b), .arg (eN n), .dat (eN 1), .any, .any]) (S' := [.arg (eT cs b), .arg (eN n), .dat (eN (cs.foldl (fun s k => s * (k + 1)) 1)), .any, .any]) (dats_map eN cs ▸ it_tup (iv0 (ev_var 0 rfl rfl)) (imms_N cs)) (fun _ _ _ _ E => E) (for_run (fun l => .one (.dat (eN l))) (fun u => [.arg (eT cs b), .arg (eN n), .dat (eN (u.foldl (fun s k => s * (k + 1)) 1)), .any, .any]) cs fun u k v e => ⟨[3], _, g_name 3 c.nd, ?_⟩) ?_)
  · have hk : k ≤ 10 := by
      have := hp.1.sum
      rw [← e] at this
      simp at this
      omega
    refine run_one (run_aug 2 c iop_mul rfl (ev_bin od_add (ev_var 3 rfl rfl) ev_int) (.inr ⟨by omega, by omega⟩) (fun _ => .int _) rfl ⟨[3], ?_⟩)
    rw [List.foldl_append]
    rfl
  · refine run_cons (run_if (k := false) (et_w (ew_or (k := false) (k' := false) (et_not (k := true) (et_val (ev_call C_is_sequence hr _ trivial (eds_one (iv1 (ev_var 0 rfl rfl)))))) fun _ => ew_or (k := false) (k' := false) (EvT.is (et_cmp (od_nei c) (ev_cb ca_lenT c.len boot_len (eds_one (iv1 (ev_var 0 rfl rfl)))) (ev_var 2 rfl rfl)) (by rw [List.length_map, vecs_len]; simp)) fun _ => ew_or1 (et_not (k := true) (et_val (EvD.is (ev_cb (ca_all c (bs := (vecs cs).map fun _ => true)) c.all boot_all (eds_one (EvN.toD (ev_lca c [("one", 4)] rfl (vecs cs) (fun v => .one (.dat (eN (b v)))) [4] (fun v => [_, .arg (eN n), _, _, .dat (eN (b v))]) (fun _ => .bool true) (it_tup (iv1 (ev_var 0 rfl rfl)) (imms_B cs b)) (dats_map _ _) ?_ (by omega) (by decide) (fun x hx s H C cl fp => g_name 4 c.nd) fun x hx => ⟨rfl, fun s H C cl fp => EvD.is (ev_call C_is_below hr ((b x : Int), (n : Int)) trivial (eds_cons (ev_var 4 rfl rfl) (eds_one (ev_var 1 rfl rfl)))) (bool_t (by have := hp.2 x hx; simp; omega))⟩)))) (bool_t (all_true _)))))) ) (fun z => nomatch z) fun _ => run_nil ?_)
    · rw [List.map_map]
      rfl
    · exact run_one (run_ret (ev_tup (eds_cons (ev_ct ca_tupT c.tuple boot_tuple (eds_one (iv0 (ev_var 0 rfl rfl)))) (eds_one (ev_ct ca_tupT c.tuple boot_tuple (eds_one (iv1 (ev_var 0 rfl rfl))))))) rfl)
end

abbrev s_check_table : Stmt := top 51
theorem sc_check_table : FnScope ["machine", "value"] ["machine", "value"] (defScope s_check_table) := ⟨rfl, rfl, rfl, by decide +kernel, rfl, by decide +kernel, by decide +kernel⟩
abbrev N_check_table : List Str := ["machine", "value"]
abbrev T_check_table (P : Program) (w : World) (K : PySem.W.Frag) (mg : Str → Option Value) (base : Heap) : Prop := CalF P w K mg base "check_table" 8 ["machine", "value"] (spF (α := Mach × List Nat × (List Nat → Nat)) (fun a => [eM a.1, eT a.2.1 a.2.2]) (fun a => VM a.1 ∧ TbOk a.2.1 a.2.2 a.1.b) (fun a => eT a.2.1 a.2.2))
section
variable {P : Program} {w : World} {K : PySem.W.Frag} {mg : Str → Option Value} {base : Heap}
theorem c_check_table (B : Blt mg) (G : Gls mg) (D : DefAt K mg "check_table" s_check_table) (C_check_machine : T_check_machine P w K mg base) (C_check_part : T_check_part P w K mg base)  : T_check_table P w K mg base := by
  obtain ⟨f, fd, h1, F⟩ := D.ex
  refine ⟨f, fd, h1, F.kp, F.bindsN fun _ _ _ _ _ _ us hl => match us, hl with | [_, _], _ => rfl, ?_⟩
  refine fn_D F sc_check_table (fun _ => rfl) (fun a => [.arg (eM a.1), .arg (eT a.2.1 a.2.2)]) (fun _ _ => as_ok ⟨aA, aA, trivial⟩) fun ⟨m, cs, b⟩ hp cdv A outer s H E hr => ?_
  try dsimp only at hp
  have c := ctx_of (P := P) (w := w) (K := K) (base := base) (f := f) (cdv := cdv) (outer := outer) (H := H) (E := E) B sc_check_table.nd hr
  obtain ⟨r0, e0⟩ : ∃ r0, m.ds[0]? = some r0 := ⟨_, List.getElem?_eq_getElem (show 0 < m.ds.length by have := hp.1.d1; omega)⟩
  have hb : m.b = r0.length := by unfold Mach.b; rw [getD_of e0]
  exact run_one (run_ret (ev_call C_check_part hr (cs, b, r0.length) (hb ▸ hp.2) (eds_cons (ev_var 1 rfl rfl) (eds_one (EvD.is (ev_cb ca_lenT c.len boot_len (eds_one (ev_ixT (ev_ixT (i := 1) (ev_call C_check_machine hr (false, m) hp.1 (eds_one (ev_var 0 rfl rfl))) ev_int rfl) ev_int (atI_map (f := eNs) (i := 0) e0)))) (len_N r0))))) rfl)
end

abbrev s_need_hand : Stmt := top 52
theorem sc_need_hand : FnScope ["told", "value"] ["told", "value"] (defScope s_need_hand) := ⟨rfl, rfl, rfl, by decide +kernel, rfl, by decide +kernel, by decide +kernel⟩
abbrev N_need_hand : List Str := ["told", "value"]
abbrev T_need_hand (P : Program) (w : World) (K : PySem.W.Frag) (mg : Str → Option Value) (base : Heap) : Prop := CalF P w K mg base "need_hand" 4 ["told", "value"] (spF (α := List Nat × (List Nat → Nat) × Nat) (fun a => [eT a.1 a.2.1, eN a.2.2]) (fun a => a.2.2 < a.1.length) (fun a => eN a.2.2))
section
variable {P : Program} {w : World} {K : PySem.W.Frag} {mg : Str → Option Value} {base : Heap}
theorem c_need_hand (B : Blt mg) (G : Gls mg) (D : DefAt K mg "need_hand" s_need_hand) (C_is_below : T_is_below P w K mg base)  : T_need_hand P w K mg base := by
  obtain ⟨f, fd, h1, F⟩ := D.ex
  refine ⟨f, fd, h1, F.kp, F.bindsN fun _ _ _ _ _ _ us hl => match us, hl with | [_, _], _ => rfl, ?_⟩
  refine fn_D F sc_need_hand (fun _ => rfl) (fun a => [.arg (eT a.1 a.2.1), .arg (eN a.2.2)]) (fun _ _ => as_ok ⟨aA, aA, trivial⟩) fun ⟨cs, b, z⟩ hp cdv A outer s H E hr => ?_
  try dsimp only at hp
  have c := ctx_of (P := P) (w := w) (K := K) (base := base) (f := f) (cdv := cdv) (outer := outer) (H := H) (E := E) B sc_need_hand.nd hr
  refine run_cons (run_if (k := false) (et_not (k := true) (et_val (EvD.is (ev_call C_is_below hr ((z : Int), (cs.length : Int)) trivial (eds_cons (ev_var 1 rfl rfl) (eds_one (EvD.is (ev_cb ca_lenT c.len boot_len (eds_one (ev_ixT (i := 0) (ev_var 0 rfl rfl) ev_int rfl))) (by rw [List.length_map]))))) (bool_t (by simp; omega))))) (fun z => nomatch z) fun _ => run_nil ?_)
  exact run_one (run_ret (ev_var 1 rfl rfl) rfl)
end

abbrev s_part_of : Stmt := top 53
theorem sc_part_of : FnScope ["table", "vector", "told", "one"] ["table", "vector"] (defScope s_part_of) := ⟨rfl, rfl, rfl, by decide +kernel, rfl, by decide +kernel, by decide +kernel⟩
abbrev N_part_of : List Str := ["table", "vector", "told", "one"]
abbrev T_part_of (P : Program) (w : World) (K : PySem.W.Frag) (mg : Str → Option Value) (base : Heap) : Prop := CalF P w K mg base "part_of" 6 ["table", "vector"] (spF (α := List Nat × (List Nat → Nat) × List Nat) (fun a => [eT a.1 a.2.1, eNs a.2.2]) (fun a => TbOk a.1 a.2.1 8 ∧ Fits a.2.2 a.1) (fun a => eT a.2.2 a.2.1))
section
variable {P : Program} {w : World} {K : PySem.W.Frag} {mg : Str → Option Value} {base : Heap}
theorem c_part_of (B : Blt mg) (G : Gls mg) (D : DefAt K mg "part_of" s_part_of) (C_check_part : T_check_part P w K mg base) (C_place_of : T_place_of P w K mg base) (C_vectors : T_vectors P w K mg base)  : T_part_of P w K mg base := by
  obtain ⟨f, fd, h1, F⟩ := D.ex
  refine ⟨f, fd, h1, F.kp, F.bindsN fun _ _ _ _ _ _ us hl => match us, hl with | [_, _], _ => rfl, ?_⟩
  refine fn_D F sc_part_of (fun _ => rfl) (fun a => [.arg (eT a.1 a.2.1), .arg (eNs a.2.2)]) (fun _ _ => as_ok ⟨aA, aA, trivial⟩) fun ⟨cs, b, v⟩ hp cdv A outer s H E hr => ?_
  try dsimp only at hp
  have c := ctx_of (P := P) (w := w) (K := K) (base := base) (f := f) (cdv := cdv) (outer := outer) (H := H) (E := E) B sc_part_of.nd hr
  have hv := hp.1.1.fits hp.2
  have h1024 := vecs_1024 hv.sum
  have iv0 : ∀ {X : Cx} {S : List Sl} {p p2 p3 : Pos} {k : Nat}, EvD X (.Name "told" p) S (eT cs b) → EvD X (.Subscript (.Name "told" p) (.Constant (.int 0) k p2) p3) S (eNs cs) := fun h => ev_ixT (i := 0) h ev_int rfl
  have iv1 : ∀ {X : Cx} {S : List Sl} {p p2 p3 : Pos} {k : Nat}, EvD X (.Name "told" p) S (eT cs b) → EvD X (.Subscript (.Name "told" p) (.Constant (.int 1) k p2) p3) S (.tuple ((vecs cs).map fun v => eN (b v))) := fun h => ev_ixT (i := 1) h ev_int rfl
  refine run_cons (run_set 2 (.dat (eT cs b)) c ⟨imm_T cs b, ev_call C_check_part hr (cs, b, 8) hp.1 (eds_cons (ev_var 0 rfl rfl) (eds_one (ev_gint G.boards)))⟩ ?_)
  refine run_cons (run_expr (ev_call C_place_of hr (cs, v) ⟨hp.1.1, hp.2⟩ (eds_cons (iv0 (ev_var 2 rfl rfl)) (eds_one (ev_var 1 rfl rfl)))) ?_)
  exact run_one (run_ret (ev_tup (eds_cons (ev_ct ca_tupT c.tuple boot_tuple (eds_one (ev_var 1 rfl rfl))) (eds_one (ev_ct ca_tupL c.tuple boot_tuple (eds_one (EvN.toD (ev_lca c [("one", 3)] rfl (vecs v) (fun x => .one (.dat (eNs x))) [3] (fun x => [_, _, .dat (eT cs b), .dat (eNs x)]) (fun x => eN (b x)) (it_tup (ev_call C_vectors hr v hv (eds_one (ev_var 1 rfl rfl))) (imms_map fun x _ => imm_Ns x)) (dats_map _ _) rfl (by omega) (by decide) (fun x hx s H C cl fp => g_name 3 c.nd) fun x hx => ⟨rfl, fun s H C cl fp => ev_ixT (iv1 (ev_var 2 rfl rfl)) (ev_call C_place_of hr (cs, x) ⟨hp.1.1, ((mem_vecs v x).mp hx).trans hp.2⟩ (eds_cons (iv0 (ev_var 2 rfl rfl)) (eds_one (ev_var 3 rfl rfl)))) (atI_B (((mem_vecs v x).mp hx).trans hp.2))⟩))))))) rfl)
end

abbrev s_first_table : Stmt := top 54
theorem sc_first_table : FnScope ["machine", "hands", "told"] ["machine", "hands"] (defScope s_first_table) := ⟨rfl, rfl, rfl, by decide +kernel, rfl, by decide +kernel, by decide +kernel⟩
abbrev N_first_table : List Str := ["machine", "hands", "told"]
abbrev T_first_table (P : Program) (w : World) (K : PySem.W.Frag) (mg : Str → Option Value) (base : Heap) : Prop := CalF P w K mg base "first_table" 9 ["machine", "hands"] (spF (α := Mach × Nat) (fun a => [eM a.1, eN a.2]) (fun a => VM a.1 ∧ VHd a.2) (fun a => eTg a.1 a.2 []))
section
variable {P : Program} {w : World} {K : PySem.W.Frag} {mg : Str → Option Value} {base : Heap}
theorem c_first_table (B : Blt mg) (G : Gls mg) (D : DefAt K mg "first_table" s_first_table) (C_check_machine : T_check_machine P w K mg base) (C_check_history : T_check_history P w K mg base)  : T_first_table P w K mg base := by
  obtain ⟨f, fd, h1, F⟩ := D.ex
  refine ⟨f, fd, h1, F.kp, F.bindsN fun _ _ _ _ _ _ us hl => match us, hl with | [_, _], _ => rfl, ?_⟩
  refine fn_D F sc_first_table (fun _ => rfl) (fun a => [.arg (eM a.1), .arg (eN a.2)]) (fun _ _ => as_ok ⟨aA, aA, trivial⟩) fun ⟨m, h⟩ hp cdv A outer s H E hr => ?_
  try dsimp only at hp
  have c := ctx_of (P := P) (w := w) (K := K) (base := base) (f := f) (cdv := cdv) (outer := outer) (H := H) (E := E) B sc_first_table.nd hr
  obtain ⟨hm, h2, h4⟩ : VM m ∧ 2 ≤ h ∧ h ≤ 4 := hp
  refine run_cons (run_set 2 (.dat (eM m)) c ⟨imm_M m, ev_call C_check_machine hr (false, m) hm (eds_one (ev_var 0 rfl rfl))⟩ ?_)
  refine run_cons (run_expr (ev_call C_check_history hr (m, h, false, []) ⟨hm, ⟨h2, h4⟩, Nat.zero_le 10, fun _ z => nomatch z⟩ (eds_cons (ev_var 2 rfl rfl) (eds_cons (ev_var 1 rfl rfl) (eds_one (ev_tup eds_nil))))) ?_)
  refine run_one (run_ret (ev_tup (eds_cons (ev_bin (od_rep (k := (h : Int)) (by simp) (by omega) (by omega) (by simp)) (ev_tup (eds_one ev_int)) (ev_var 1 rfl rfl)) (eds_one (ev_tup (eds_one (ev_ixT (i := 0) (ev_var 2 rfl rfl) ev_int rfl)))))) ?_)
  have : h = 2 ∨ h = 3 ∨ h = 4 := by omega
  rcases this with rfl | rfl | rfl <;> rfl
end

theorem VH.snoc {h n : Nat} {g : Hist} {l : Nat × Nat} (k : VH h n (g ++ [l])) : VH h n g ∧ l.1 < h ∧ l.2 < n ∧ g.length ≤ 9 := ⟨⟨by have := k.1; simp at this; omega, fun x hx => k.2 x (List.mem_append_left _ hx)⟩, (k.2 l (by simp)).1, (k.2 l (by simp)).2, by have := k.1; simp at this; omega⟩


abbrev s_grown : Stmt := top 55
theorem sc_grown : FnScope ["machine", "told", "hand", "deed", "counts", "step", "found", "vector", "less", "place", "many"] ["machine", "told", "hand", "deed"] (defScope s_grown) := ⟨rfl, rfl, rfl, by decide +kernel, rfl, by decide +kernel, by decide +kernel⟩
abbrev N_grown : List Str := ["machine", "told", "hand", "deed", "counts", "step", "found", "vector", "less", "place", "many"]
abbrev T_grown (P : Program) (w : World) (K : PySem.W.Frag) (mg : Str → Option Value) (base : Heap) : Prop := CalF P w K mg base "grown" 6 ["machine", "told", "hand", "deed"] (spF (α := Mach × Nat × Hist × Nat × Nat) (fun a => [eM a.1, eTg a.1 a.2.1 a.2.2.1, eN a.2.2.2.1, eN a.2.2.2.2]) (fun a => VM a.1 ∧ VHd a.2.1 ∧ VH a.2.1 a.1.ds.length (a.2.2.1 ++ [a.2.2.2])) (fun a => eTg a.1 a.2.1 (a.2.2.1 ++ [a.2.2.2])))
section
variable {P : Program} {w : World} {K : PySem.W.Frag} {mg : Str → Option Value} {base : Heap}
theorem c_grown (B : Blt mg) (G : Gls mg) (D : DefAt K mg "grown" s_grown) (C_vectors : T_vectors P w K mg base) (C_place_of : T_place_of P w K mg base)  : T_grown P w K mg base := by
  obtain ⟨f, fd, h1, F⟩ := D.ex
  refine ⟨f, fd, h1, F.kp, F.bindsN fun _ _ _ _ _ _ us hl => match us, hl with | [_, _, _, _], _ => rfl, ?_⟩
  refine fn_D F sc_grown (fun _ => rfl) (fun a => [.arg (eM a.1), .arg (eTg a.1 a.2.1 a.2.2.1), .arg (eN a.2.2.2.1), .arg (eN a.2.2.2.2)]) (fun _ _ => as_ok ⟨aA, aA, aA, aA, trivial⟩) fun ⟨m, h, g, z, d⟩ hp cdv A outer s H E hr => ?_
  try dsimp only at hp
  have c := ctx_of (P := P) (w := w) (K := K) (base := base) (f := f) (cdv := cdv) (outer := outer) (H := H) (E := E) B sc_grown.nd hr
  obtain ⟨hm, hh, hv⟩ : VM m ∧ VHd h ∧ VH h m.ds.length (g ++ [(z, d)]) := hp
  obtain ⟨hg, hz, hd, hl⟩ := hv.snoc
  have cs1 := CsOk.counts (g := g) hh hg.1
  have cs2 := CsOk.counts (g := g ++ [(z, d)]) hh hv.1
  have h1024 := vecs_1024 cs2.sum
  have hl1 : z < (counts h g).length := by rw [counts_len]; exact hz
  have hl2 : z < (counts h (g ++ [(z, d)])).length := by rw [counts_len]; exact hz
  have hat2 : At (counts h (g ++ [(z, d)])) z = cnt z g + 1 := by rw [counts_at hz, cnt_app, cnt_one, if_pos rfl]
  obtain ⟨r, er⟩ : ∃ r, m.ds[d]? = some r := ⟨_, List.getElem?_eq_getElem hd⟩
  have iv0 : ∀ {X : Cx} {S : List Sl} {p p2 p3 : Pos} {k : Nat}, EvD X (.Name "told" p) S (eTg m h g) → EvD X (.Subscript (.Name "told" p) (.Constant (.int 0) k p2) p3) S (eNs (counts h g)) := fun h => ev_ixT (i := 0) h ev_int rfl
  have iv1 : ∀ {X : Cx} {S : List Sl} {p p2 p3 : Pos} {k : Nat}, EvD X (.Name "told" p) S (eTg m h g) → EvD X (.Subscript (.Name "told" p) (.Constant (.int 1) k p2) p3) S (.tuple ((vecs (counts h g)).map fun v => eN (tab m g v))) := fun h => ev_ixT (i := 1) h ev_int rfl
  have iv : ∀ {X : Cx} {S : List Sl} {p p2 p3 : Pos} {k : Nat}, EvD X (.Name "told" p) S (eTg m h g) → EvD X (.Subscript (.Name "told" p) (.Constant (.int 0) k p2) p3) S (eNs (counts h g)) := fun h => ev_ixT (i := 0) h ev_int rfl
  refine run_cons (run_set 4 (.dat (eNs (counts h (g ++ [(z, d)])))) c ⟨imm_Ns _, EvD.is (ev_ct ca_tupL c.tuple boot_tuple (eds_one (EvN.toD (ev_lca c [("place", 9), ("many", 10)] rfl (en (counts h g)) (fun x => .tup [.dat (eN x.1), .dat (eN x.2)]) [9, 10] (fun x => [_, _, .arg (eN z), _, _, _, _, _, _, .dat (eN x.1), .dat (eN x.2)]) (fun x => eN (grownAt z x)) (it_enum c (iv0 (ev_var 1 rfl rfl)) (imms_N _)) (en_N _) rfl (by rw [en_len, counts_len]; have := hh.2; omega) (by decide) (fun x hx s H C cl fp => g_tup2 9 10 c.blk) fun x hx => ⟨rfl, fun s H C cl fp => ev_ife (k := decide (x.1 = z)) (EvT.is (et_cmp (od_eqi c.blk) (ev_var 9 rfl rfl) (ev_var 2 rfl rfl)) (eqN _ _)) (fun q => EvD.is (ev_bin od_add (ev_var 10 rfl rfl) ev_int) (by unfold grownAt; rw [if_pos (of_decide_eq_true q)]; rfl)) (fun q => EvD.is (ev_var 10 rfl rfl) (by unfold grownAt; rw [if_neg (of_decide_eq_false q)]))⟩)))) (by rw [grown_counts]; unfold eNs; rw [List.map_map]; rfl)⟩ ?_)
  refine run_cons (run_par 5 6 (.dat (eNs r)) (.lst []) c ⟨imm_Ns r, ev_ixT (ev_ixT (i := 1) (ev_var 0 rfl rfl) ev_int rfl) (ev_var 3 rfl rfl) (atI_map er)⟩ ⟨rfl, ev_lst eds_nil⟩ (by decide) ?_)
  refine run_cons (run_for c (items := (vecs (counts h (g ++ [(z, d)]))).map fun l => .one (.dat (eNs l))) (S0 := [.arg (eM m), .arg (eTg m h g), .arg (eN z), .arg (eN d), .dat (eNs (counts h (g ++ [(z, d)]))), .dat (eNs r), .lst ([].map fun v => eN (tab m (g ++ [(z, d)]) v)), .any, .any, .any, .any]) (S' := [.arg (eM m), .arg (eTg m h g), .arg (eN z), .arg (eN d), .dat (eNs (counts h (g ++ [(z, d)]))), .dat (eNs r), .lst ((vecs (counts h (g ++ [(z, d)]))).map fun v => eN (tab m (g ++ [(z, d)]) v)), .any, .any, .any, .any]) (dats_map eNs _ ▸ it_tup (ev_call C_vectors hr _ cs2 (eds_one (ev_var 4 rfl rfl))) (imms_map fun x _ => imm_Ns x)) (fun _ _ _ _ E => E) (for_run (fun l => .one (.dat (eNs l))) (fun u => [.arg (eM m), .arg (eTg m h g), .arg (eN z), .arg (eN d), .dat (eNs (counts h (g ++ [(z, d)]))), .dat (eNs r), .lst (u.map fun v => eN (tab m (g ++ [(z, d)]) v)), .any, .any, .any, .any]) _ fun u v t e => ⟨[7], _, g_name 7 c.nd, ?_⟩) ?_)
  · have hf : Fits v (counts h (g ++ [(z, d)])) := (mem_vecs _ v).mp (by rw [← e]; simp)
    have hvl : z < v.length := by rw [hf.len]; exact hz
    have hul : u.length < 100000 := by have := congrArg List.length e; simp at this; omega
    have hx1 : ∀ {X : Cx} {S : List Sl} {a : Expr} {p p2 p3 : Pos} {k : Nat}, EvD X (.Name "told" p) S (eTg m h g) → EvD X (.Subscript (.Name "told" p) (.Constant (.int 0) k p2) p3) S (eNs (counts h g)) := iv0
    refine run_one (run_if (k := decide (At v z < cnt z g + 1)) (EvT.is (et_cmp od_lt (ev_N (ev_var 7 rfl rfl) (ev_var 2 rfl rfl) hvl) (ev_N (ev_var 4 rfl rfl) (ev_var 2 rfl rfl) hl2)) (by rw [hat2]; exact ltN _ _)) (fun q => ?_) fun q => ?_)
    · obtain ⟨k1, k2⟩ := grown_same (m := m) (l := (z, d)) hz hf (of_decide_eq_true q)
      refine run_one (run_append 6 rfl (ev_ixT (iv1 (ev_var 1 rfl rfl)) (ev_call C_place_of hr (counts h g, v) ⟨cs1, k1⟩ (eds_cons (iv0 (ev_var 1 rfl rfl)) (eds_one (ev_var 7 rfl rfl)))) (atI_B k1)) rfl (by rw [List.length_map]; exact hul) ⟨[7], ?_⟩)
      rw [List.map_append, ← k2]
      rfl
    · obtain ⟨k1, k2, k3⟩ := grown_more (m := m) (l := (z, d)) hz hf (of_decide_eq_false q)
      have hvl4 : (v.map eN).length ≤ 4 := by rw [List.length_map, hf.len]; exact hh.2
      have hc1 : (cutD (v.map eN) none (some (z : Int))).length + [PyData.int (((At v z : Nat) : Int) - 1)].length ≤ 100000 := by
        have := cutD_len (v.map eN) none (some (z : Int))
        show _ + 1 ≤ _
        omega
      have hc2 : (cutD (v.map eN) none (some (z : Int)) ++ [PyData.int (((At v z : Nat) : Int) - 1)]).length + (cutD (v.map eN) (some ((z : Int) + 1)) none).length ≤ 100000 := by
        have := cutD_len (v.map eN) (some ((z : Int) + 1)) none
        have := cutD_len (v.map eN) none (some (z : Int))
        rw [List.length_append]
        show _ + 1 + _ ≤ _
        omega
      refine run_cons (run_set 8 (.dat (eNs (lss v z))) c ⟨imm_Ns _, EvD.is (ev_bin (od_cat hc2) (ev_bin (od_cat hc1) (ev_slT (ev_var 7 rfl rfl) eo_none (eo_some (ev_var 2 rfl rfl))) (ev_tup (eds_one (ev_bin od_sub (ev_N (ev_var 7 rfl rfl) (ev_var 2 rfl rfl) hvl) ev_int)))) (ev_slT (ev_var 7 rfl rfl) (eo_some (ev_bin od_add (ev_var 2 rfl rfl) ev_int)) eo_none)) (lss_data hvl k3)⟩ ?_)
      · have htl : tab m g (lss v z) < m.b := tab_lt hm g _ _ (fun l hl => (hg.2 l hl).2) hm.s
        obtain ⟨r', er', er2, _, _⟩ := hm.f_at hd htl
        rw [er] at er'
        cases er'
        refine run_one (run_append 6 rfl (ev_ixT (d := eN (tab m (g ++ [(z, d)]) v)) (ev_var 5 rfl rfl) (ev_ixT (iv1 (ev_var 1 rfl rfl)) (ev_call C_place_of hr (counts h g, lss v z) ⟨cs1, k1⟩ (eds_cons (iv0 (ev_var 1 rfl rfl)) (eds_one (ev_var 8 rfl rfl)))) (atI_B k1)) (k2 ▸ atI_map er2)) rfl (by rw [List.length_map]; exact hul) ⟨[7, 8], ?_⟩)
        rw [List.map_append]
        rfl
  · exact run_one (run_ret (ev_tup (eds_cons (ev_var 4 rfl rfl) (eds_one (ev_ct ca_tupL c.tuple boot_tuple (eds_one (ev_var 6 rfl rfl)))))) rfl)
end
end Ow
end

section
set_option linter.all false
set_option autoImplicit false
/-! Last deeds and normal histories, plain. -/
namespace Ow
open PySem L2 OwL Om
def doesAll (r : List Nat) (ps : List (Nat × Nat)) : Bool := ps.all fun p => decide (At r p.1 = p.2)
def deedsDoing (m : Mach) (ps : List (Nat × Nat)) : List Nat := ((en m.ds).filter fun x => doesAll x.2 ps).map (·.1)
def pairsOf (cs : List Nat) (b : List Nat → Nat) (z : Nat) (u : List (List Nat)) : List (Nat × Nat) := (u.filter fun v => decide (At v z = At cs z)).map fun v => (b (lss v z), b v)
def someAt (m : Mach) (cs : List Nat) (b : List Nat → Nat) (x : Nat × Nat) : List Nat := if 0 < x.2 then deedsDoing m (pairsOf cs b x.1 (vecs cs)) else []
def headL (z : Nat) : List Nat → Hist
  | [] => []
  | d :: _ => [(z, d)]
def lastsOf (m : Mach) (cs : List Nat) (b : List Nat → Nat) (u : List (Nat × Nat)) : Hist := u.flatMap fun x => headL x.1 (someAt m cs b x)
theorem lastsOf_snoc (m : Mach) (cs : List Nat) (b : List Nat → Nat) (u : List (Nat × Nat)) (x : Nat × Nat) : lastsOf m cs b (u ++ [x]) = lastsOf m cs b u ++ headL x.1 (someAt m cs b x) := by
  unfold lastsOf
  rw [List.flatMap_append, List.flatMap_cons, List.flatMap_nil, List.append_nil]
theorem pairsOf_snoc (cs : List Nat) (b : List Nat → Nat) (z : Nat) (u : List (List Nat)) (v : List Nat) : pairsOf cs b z (u ++ [v]) = pairsOf cs b z u ++ if At v z = At cs z then [(b (lss v z), b v)] else [] := by
  unfold pairsOf
  rw [List.filter_append, List.map_append]
  congr 1
  by_cases h : At v z = At cs z
  · rw [if_pos h, List.filter_cons, if_pos (by simpa using h)]
    rfl
  · rw [if_neg h, List.filter_cons, if_neg (by simpa using h)]
    rfl
theorem pairsOf_len (cs : List Nat) (b : List Nat → Nat) (z : Nat) (u : List (List Nat)) : (pairsOf cs b z u).length ≤ u.length := by
  unfold pairsOf
  rw [List.length_map]
  exact List.length_filter_le _ _
theorem headL_len (z : Nat) (l : List Nat) : (headL z l).length ≤ 1 := by cases l <;> simp [headL]
theorem lastsOf_len (m : Mach) (cs : List Nat) (b : List Nat → Nat) : ∀ u : List (Nat × Nat), (lastsOf m cs b u).length ≤ u.length
  | [] => Nat.le_refl _
  | x :: u => by
    have := lastsOf_len m cs b u
    have h := headL_len x.1 (someAt m cs b x)
    unfold lastsOf at this ⊢
    rw [List.flatMap_cons, List.length_append, List.length_cons]
    omega
theorem deedsDoing_mem {m : Mach} {ps : List (Nat × Nat)} {d : Nat} : d ∈ deedsDoing m ps ↔ ∃ r, m.ds[d]? = some r ∧ doesAll r ps = true := by
  unfold deedsDoing
  rw [List.mem_map]
  constructor
  · rintro ⟨⟨i, r⟩, h, rfl⟩
    obtain ⟨h1, h2⟩ := List.mem_filter.mp h
    exact ⟨r, en_get h1, h2⟩
  · rintro ⟨r, h1, h2⟩
    exact ⟨(d, r), List.mem_filter.mpr ⟨List.mem_iff_getElem?.mpr ⟨d, by unfold en; rw [List.getElem?_mapIdx, h1]; rfl⟩, h2⟩, rfl⟩
theorem doesAll_iff {r : List Nat} {ps : List (Nat × Nat)} : doesAll r ps = true ↔ ∀ p ∈ ps, At r p.1 = p.2 := by
  unfold doesAll
  rw [List.all_eq_true]
  exact ⟨fun h p hp => of_decide_eq_true (h p hp), fun h p hp => decide_eq_true (h p hp)⟩
theorem split_last {z : Nat} : ∀ {g : Hist}, 0 < cnt z g → ∃ p d q, g = p ++ (z, d) :: q ∧ cnt z q = 0
  | [], h => absurd h (Nat.lt_irrefl 0)
  | l :: g, h => by
    by_cases hg : 0 < cnt z g
    · obtain ⟨p, d, q, e, hq⟩ := split_last hg
      exact ⟨l :: p, d, q, by rw [e]; rfl, hq⟩
    · rw [cnt_cons] at h
      by_cases e : l.1 = z
      · exact ⟨[], l.2, g, by rw [← e]; rfl, by omega⟩
      · rw [if_neg e] at h
        omega
/-- a back, unseen below -/
theorem Bd_back (f : Nat → Nat → Nat) {p q : Hist} {z d : Nat} {n : Nat → Nat} (h : n z ≤ cnt z p) (b : Nat) : Bd f (p ++ (z, d) :: q) n b = Bd f (p ++ q) n b := by
  rw [Bd_app, Bd_app, Bd_cons]
  show Bd f q (dec (fun y => n y - cnt y p) z) (if 0 < n z - cnt z p then f d (Bd f p n b) else Bd f p n b) = _
  rw [if_neg (by omega)]
  congr 1
  funext y
  by_cases e : y = z
  · subst e
    rw [dec_same]
    omega
  · rw [dec_ne _ e]
theorem cnt_back {p q : Hist} {z d y : Nat} : cnt y (p ++ (z, d) :: q) = cnt y (p ++ q) + if z = y then 1 else 0 := by
  rw [cnt_app, cnt_app, cnt_cons]
  show cnt y p + ((if z = y then 1 else 0) + cnt y q) = _
  omega
theorem counts_back {h : Nat} {p q : Hist} {z d : Nat} (hz : z < h) : counts h (p ++ q) = lss (counts h (p ++ (z, d) :: q)) z := by
  apply List.ext_getElem?
  intro i
  unfold lss
  rw [List.getElem?_set, counts_len]
  by_cases e : z = i
  · subst e
    rw [if_pos rfl, if_pos hz, At_get (by rw [counts_len]; exact hz), counts_at hz, counts_at hz, cnt_back, if_pos rfl]
    rfl
  · rw [if_neg e]
    by_cases hi : i < h
    · rw [At_get (by rw [counts_len]; exact hi), At_get (by rw [counts_len]; exact hi), counts_at hi, counts_at hi, cnt_back, if_neg e]
      rfl
    · rw [List.getElem?_eq_none (by rw [counts_len]; omega), List.getElem?_eq_none (by rw [counts_len]; omega)]
theorem VH.back {h n : Nat} {p q : Hist} {l : Nat × Nat} (k : VH h n (p ++ l :: q)) : VH h n (p ++ q) := ⟨by have := k.1; simp at this ⊢; omega, fun x hx => k.2 x (by rcases List.mem_append.mp hx with w | w <;> simp [w])⟩
/-- who is told last is there -/
theorem lasts_mem {m : Mach} {cs : List Nat} {b : List Nat → Nat} {l : Nat × Nat} (h : l ∈ lastsOf m cs b (en cs)) : l.1 < cs.length ∧ 1 ≤ At cs l.1 ∧ l.2 < m.ds.length := by
  unfold lastsOf at h
  obtain ⟨x, hx, hl⟩ := List.mem_flatMap.mp h
  have hg := en_get hx
  unfold someAt at hl
  by_cases h0 : 0 < x.2
  · rw [if_pos h0] at hl
    cases q : deedsDoing m (pairsOf cs b x.1 (vecs cs)) with
    | nil =>
      rw [q] at hl
      simp [headL] at hl
    | cons d r =>
      rw [q] at hl
      have e : l = (x.1, d) := by simpa [headL] using hl
      have hd : d ∈ deedsDoing m (pairsOf cs b x.1 (vecs cs)) := by rw [q]; exact List.mem_cons_self
      obtain ⟨r', h1, _⟩ := deedsDoing_mem.mp hd
      rw [e]
      exact ⟨(List.getElem?_eq_some_iff.mp hg).1, by show 1 ≤ At cs x.1; rw [At_of hg]; exact h0, (List.getElem?_eq_some_iff.mp h1).1⟩
  · rw [if_neg h0] at hl
    simp [headL] at hl
theorem At_row {m : Mach} {d x : Nat} {r : List Nat} (h : m.ds[d]? = some r) : At r x = m.f d x := by
  unfold Mach.f At
  rw [getD_of h]
/-- some hand can be last -/
theorem lasts_some {m : Mach} {h : Nat} {g : Hist} (hg : VH h m.ds.length g) (hne : g ≠ []) : lastsOf m (counts h g) (tab m g) (en (counts h g)) ≠ [] := by
  rcases List.eq_nil_or_concat g with rfl | ⟨u, l, e⟩
  · exact absurd rfl hne
  rw [List.concat_eq_append] at e
  have hl := hg.2 l (by rw [e]; simp)
  obtain ⟨r, hr⟩ : ∃ r, m.ds[l.2]? = some r := ⟨_, List.getElem?_eq_getElem hl.2⟩
  have hpos : 0 < cnt l.1 g := by rw [e, cnt_app, cnt_one, if_pos rfl]; omega
  have hd : l.2 ∈ deedsDoing m (pairsOf (counts h g) (tab m g) l.1 (vecs (counts h g))) := by
    refine deedsDoing_mem.mpr ⟨r, hr, doesAll_iff.mpr fun p hp => ?_⟩
    unfold pairsOf at hp
    obtain ⟨v, hv, rfl⟩ := List.mem_map.mp hp
    obtain ⟨hv1, hv2⟩ := List.mem_filter.mp hv
    have hf := (mem_vecs _ _).mp hv1
    have hv2 : At v l.1 = cnt l.1 g := by rw [← counts_at hl.1]; exact of_decide_eq_true hv2
    have L := last_end m.f m.s u l.1 l.2 (At v) (by
      show cnt l.1 (u ++ [l]) ≤ _
      rw [← e, hv2]
      exact Nat.le_refl _)
    have e' : u ++ [(l.1, l.2)] = g := e.symm
    rw [e'] at L
    rw [At_row hr]
    unfold tab lss
    rw [At_set (by rw [hf.len]; exact hl.1), hv2]
    exact L.symm
  intro hn
  have hx : (l.1, cnt l.1 g) ∈ en (counts h g) := List.mem_iff_getElem?.mpr ⟨l.1, by
    unfold en
    rw [List.getElem?_mapIdx, At_get (by rw [counts_len]; exact hl.1), counts_at hl.1]
    rfl⟩
  unfold lastsOf at hn
  have := List.flatMap_eq_nil_iff.mp hn _ hx
  unfold someAt at this
  rw [if_pos hpos] at this
  cases q : deedsDoing m (pairsOf (counts h g) (tab m g) l.1 (vecs (counts h g))) with
  | nil =>
    rw [q] at hd
    cases hd
  | cons d r =>
    rw [show ((l.1, cnt l.1 g) : Nat × Nat).1 = l.1 from rfl, q] at this
    simp [headL] at this
theorem nil_of_counts {h n : Nat} {g : Hist} (hg : VH h n g) (hz : ∀ z, z < h → cnt z g = 0) : g = [] := by
  cases g with
  | nil => rfl
  | cons l g =>
    have := hz l.1 (hg.2 l List.mem_cons_self).1
    rw [cnt_cons, if_pos rfl] at this
    omega
theorem tab_back {m : Mach} {h : Nat} {p q : Hist} {z d : Nat} (hz : z < h) (hq : cnt z q = 0) {v : List Nat} (hv : Fits v (counts h (p ++ q))) : tab m (p ++ (z, d) :: q) v = tab m (p ++ q) v := by
  unfold tab
  refine Bd_back m.f ?_ m.s
  have := hv.cnt hz
  rw [cnt_app, hq] at this
  exact this
end Ow
namespace Ow
open PySem L2 OwL Om
/-- a back, by hand -/
def bk (z : Nat) : Hist → Hist
  | [] => []
  | l :: r => if 0 < cnt z r then l :: bk z r else if l.1 = z then r else l :: r
theorem bk_eq {z d : Nat} {q : Hist} (hq : cnt z q = 0) : ∀ p : Hist, bk z (p ++ (z, d) :: q) = p ++ q
  | [] => by
    show (if 0 < cnt z q then _ else if z = z then q else _) = q
    rw [if_neg (by omega), if_pos rfl]
  | l :: p => by
    show (if 0 < cnt z (p ++ (z, d) :: q) then l :: bk z (p ++ (z, d) :: q) else _) = l :: (p ++ q)
    rw [if_pos (by rw [cnt_app, cnt_cons, if_pos rfl]; omega), bk_eq hq p]
inductive Press where
  | deed (z d : Nat)
  | back (z : Nat)
def prs (g : Hist) : Press → Hist
  | .deed z d => g ++ [(z, d)]
  | .back z => bk z g
def PrOk (h n : Nat) (g : Hist) : Press → Prop
  | .deed z d => z < h ∧ d < n
  | .back z => 0 < cnt z g
/-- the places of a hand -/
theorem en_app {α : Type} (a b : List α) : en (a ++ b) = en a ++ (en b).map fun x => (a.length + x.1, x.2) := by
  apply List.ext_getElem?
  intro i
  unfold en
  rw [List.getElem?_mapIdx]
  by_cases h : i < a.length
  · rw [List.getElem?_append_left h, List.getElem?_append_left (by rw [List.length_mapIdx]; exact h), List.getElem?_mapIdx]
  · rw [List.getElem?_append_right (by omega), List.getElem?_append_right (by rw [List.length_mapIdx]; omega), List.getElem?_map, List.getElem?_mapIdx, List.length_mapIdx]
    cases b[i - a.length]? with
    | none => rfl
    | some y =>
      show some (i, y) = some (a.length + (i - a.length), y)
      rw [show a.length + (i - a.length) = i by omega]
theorem places_last {p q : Hist} {z d : Nat} (hq : cnt z q = 0) : ∃ L, ((en (p ++ (z, d) :: q)).filter fun x => decide (x.2.1 = z)).map (·.1) = L ++ [p.length] := by
  refine ⟨((en p).filter fun x => decide (x.2.1 = z)).map (·.1), ?_⟩
  have e : en (p ++ (z, d) :: q) = en p ++ (p.length, (z, d)) :: ((en q).map fun x => (p.length + 1 + x.1, x.2)) := by
    rw [show p ++ (z, d) :: q = p ++ ([(z, d)] ++ q) from rfl, en_app, en_app]
    show _ ++ (p.length + 0, (z, d)) :: (((en q).map _).map _) = _
    rw [List.map_map]
    congr 2
    refine List.map_congr_left fun x _ => ?_
    show (p.length + ([(z, d)].length + x.1), x.2) = (p.length + 1 + x.1, x.2)
    rw [show [(z, d)].length = 1 from rfl, Nat.add_assoc]
  rw [e, List.filter_append, List.map_append, List.filter_cons, if_pos (by simp)]
  congr 1
  have e2 : ((en q).map fun x => (p.length + 1 + x.1, x.2)).filter (fun x => decide (x.2.1 = z)) = [] := List.filter_eq_nil_iff.mpr fun x hx => by
    obtain ⟨y, hy, rfl⟩ := List.mem_map.mp hx
    intro k
    have k : y.2.1 = z := of_decide_eq_true k
    obtain ⟨a, b, e⟩ := List.append_of_mem (en_mem hy)
    rw [e, cnt_app, cnt_cons, if_pos k] at hq
    omega
  rw [e2]
  rfl
end Ow
end

section
set_option linter.all false
set_option autoImplicit false
/-! Ways by unseen steps, and how far two histories are, plain. -/
namespace Ow
open PySem L2 OwL Om
inductive Step where
  | put (a d : Nat)
  | exch (a : Nat)
inductive Stp : Hist → Step → Hist → Prop
  | put (p : Hist) (z d0 d : Nat) (q : Hist) : d0 ≠ d → Stp (p ++ (z, d0) :: q) (.put p.length d) (p ++ (z, d) :: q)
  | exch (p : Hist) (l l' : Nat × Nat) (q : Hist) : l.1 ≠ l'.1 → Stp (p ++ l :: l' :: q) (.exch p.length) (p ++ l' :: l :: q)
/-- steps that nobody sees -/
inductive Lead (f : Nat → Nat → Nat) (s h n : Nat) : Hist → List Step → Hist → Prop
  | nil (g : Hist) : Lead f s h n g [] g
  | cons {g g' g'' : Hist} {st : Step} {r : List Step} : Stp g st g' → Alike f s g g' → VH h n g' → Lead f s h n g' r g'' → Lead f s h n g (st :: r) g''
theorem Lead.trans {f : Nat → Nat → Nat} {s h n : Nat} {g g' g'' : Hist} {a b : List Step} (x : Lead f s h n g a g') (y : Lead f s h n g' b g'') : Lead f s h n g (a ++ b) g'' := by
  induction x with
  | nil g => exact y
  | cons h1 h2 h3 _ ih => exact .cons h1 h2 h3 (ih y)
theorem Lead.alike {f : Nat → Nat → Nat} {s h n : Nat} {g g' : Hist} {a : List Step} (x : Lead f s h n g a g') : Alike f s g g' := by
  induction x with
  | nil g => exact Alike.refl f s g
  | cons h1 h2 h3 _ ih => exact Alike.trans f s h2 ih
/-! ### names -/
def nmP : Hist → Hist → List (Nat × Nat)
  | _, [] => []
  | pre, l :: r => (l.1, cnt l.1 pre) :: nmP (pre ++ [l]) r
def nm (g : Hist) : List (Nat × Nat) := nmP [] g
theorem nmP_len : ∀ (g pre : Hist), (nmP pre g).length = g.length
  | [], _ => rfl
  | l :: g, pre => by
    show (nmP _ g).length + 1 = _
    rw [nmP_len g]
    rfl
theorem nmP_app : ∀ (a b pre : Hist), nmP pre (a ++ b) = nmP pre a ++ nmP (pre ++ a) b
  | [], b, pre => by rw [List.append_nil]; rfl
  | l :: a, b, pre => by
    show _ :: nmP (pre ++ [l]) (a ++ b) = _
    rw [nmP_app a b, List.append_assoc]
    rfl
theorem nmP_congr : ∀ (q pre pre' : Hist), (∀ l ∈ q, cnt l.1 pre = cnt l.1 pre') → nmP pre q = nmP pre' q
  | [], _, _, _ => rfl
  | l :: q, pre, pre', h => by
    show (l.1, cnt l.1 pre) :: _ = (l.1, cnt l.1 pre') :: _
    rw [h l List.mem_cons_self, nmP_congr q (pre ++ [l]) (pre' ++ [l]) fun x hx => by rw [cnt_app, cnt_app, h x (List.mem_cons_of_mem _ hx)]]
theorem mem_nmP : ∀ (g pre : Hist) (a : Nat × Nat), a ∈ nmP pre g ↔ cnt a.1 pre ≤ a.2 ∧ a.2 < cnt a.1 pre + cnt a.1 g
  | [], pre, a => by
    show a ∈ [] ↔ _
    rw [show cnt a.1 [] = 0 from rfl]
    constructor
    · intro h
      cases h
    · intro h
      omega
  | l :: g, pre, a => by
    show a ∈ (l.1, cnt l.1 pre) :: nmP (pre ++ [l]) g ↔ _
    rw [List.mem_cons, mem_nmP g, cnt_app, cnt_one, cnt_cons]
    constructor
    · rintro (rfl | h)
      · show cnt l.1 pre ≤ cnt l.1 pre ∧ cnt l.1 pre < cnt l.1 pre + ((if l.1 = l.1 then 1 else 0) + cnt l.1 g)
        rw [if_pos rfl]
        omega
      · by_cases e : l.1 = a.1
        · rw [if_pos e] at h ⊢
          omega
        · rw [if_neg e] at h ⊢
          omega
    · intro h
      by_cases e : l.1 = a.1
      · rw [if_pos e] at h ⊢
        by_cases e2 : a.2 = cnt a.1 pre
        · exact .inl (by rw [Prod.ext_iff]; exact ⟨e.symm, by rw [e2, e]⟩)
        · exact .inr (by omega)
      · rw [if_neg e] at h ⊢
        exact .inr (by omega)
theorem mem_nm (g : Hist) (a : Nat × Nat) : a ∈ nm g ↔ a.2 < cnt a.1 g := by
  unfold nm
  rw [mem_nmP]
  show 0 ≤ a.2 ∧ a.2 < 0 + cnt a.1 g ↔ _
  omega
/-! ### how far -/
def inv : List Nat → Nat
  | [] => 0
  | a :: r => (r.filter fun b => decide (b < a)).length + inv r
theorem inv_ins (w : Nat) : ∀ (A B : List Nat), (∀ a ∈ A, a < w) → (∀ b ∈ B, b < w) → inv (A ++ w :: B) = inv (A ++ B) + B.length
  | [], B, _, hB => by
    show (B.filter fun b => decide (b < w)).length + inv B = inv B + B.length
    rw [List.filter_eq_self.mpr fun b hb => decide_eq_true (hB b hb)]
    omega
  | a :: A, B, hA, hB => by
    have ih := inv_ins w A B (fun x hx => hA x (List.mem_cons_of_mem _ hx)) hB
    show ((A ++ w :: B).filter fun b => decide (b < a)).length + inv (A ++ w :: B) = ((A ++ B).filter fun b => decide (b < a)).length + inv (A ++ B) + B.length
    have ha := hA a List.mem_cons_self
    rw [ih, List.filter_append, List.filter_append, List.filter_cons, if_neg (by simp; omega)]
    omega
def ix (g : Hist) (a : Nat × Nat) : Nat := (nm g).idxOf a
def oth (g g' : Hist) : Nat := ((g.zip (nm g)).filter fun x => !decide (x.1.2 = (g'.getD (ix g' x.2) (0, 0)).2)).length
def far (g g' : Hist) : Nat := inv ((nm g).map (ix g')) + oth g g'
theorem nm_snoc (u : Hist) (l : Nat × Nat) : nm (u ++ [l]) = nm u ++ [(l.1, cnt l.1 u)] := by
  unfold nm
  rw [nmP_app]
  rfl
theorem ix_old {u : Hist} {l a : Nat × Nat} (h : a ∈ nm u) : ix (u ++ [l]) a = ix u a ∧ ix u a < u.length := by
  unfold ix
  rw [nm_snoc, List.idxOf_append, if_pos h]
  refine ⟨rfl, ?_⟩
  have := List.idxOf_lt_length_of_mem h
  unfold nm at this ⊢
  rw [nmP_len] at this
  exact this
theorem ix_new (u : Hist) (l : Nat × Nat) : ix (u ++ [l]) (l.1, cnt l.1 u) = u.length := by
  unfold ix
  rw [nm_snoc, List.idxOf_append, if_neg (by rw [mem_nm]; exact Nat.lt_irrefl _)]
  unfold nm
  rw [nmP_len]
  simp
theorem getD_app_left {α : Type} {l t : List α} {i : Nat} {x : α} (h : i < l.length) : (l ++ t).getD i x = l.getD i x := by
  rw [List.getD_eq_getElem?_getD, List.getD_eq_getElem?_getD, List.getElem?_append_left h]
theorem far_step {p q u : Hist} {z d0 d : Nat} (hq : cnt z q = 0) (hc : ∀ y, cnt y (p ++ (z, d0) :: q) = cnt y (u ++ [(z, d)])) :
    far (p ++ (z, d0) :: q) (u ++ [(z, d)]) = (if d0 = d then 0 else 1) + q.length + far (p ++ q) u := by
  have hcz := hc z
  have hcu : ∀ y, cnt y (p ++ q) = cnt y u := fun y => by
    have := hc y
    rw [cnt_back, cnt_app (g := u), cnt_one] at this
    show _ = _
    have e : (if (z, d).1 = y then 1 else 0) = if z = y then 1 else 0 := rfl
    rw [e] at this
    omega
  have hzu : cnt z u = cnt z p := by rw [← hcu, cnt_app, hq]; omega
  have hqn : ∀ l ∈ q, l.1 ≠ z := fun l hl e => by
    obtain ⟨a, b, rfl⟩ := List.append_of_mem hl
    rw [cnt_app, cnt_cons, if_pos e] at hq
    omega
  have n1 : nm (p ++ (z, d0) :: q) = nm p ++ (z, cnt z p) :: nmP p q := by
    unfold nm
    rw [nmP_app]
    show nmP [] p ++ (z, cnt z p) :: nmP (p ++ [(z, d0)]) q = _
    rw [nmP_congr q (p ++ [(z, d0)]) p fun l hl => by rw [cnt_app, cnt_one, if_neg (fun e => hqn l hl e.symm)]; rfl]
  have n2 : nm (p ++ q) = nm p ++ nmP p q := by
    unfold nm
    rw [nmP_app]
    rfl
  have old : ∀ a ∈ nm (p ++ q), ix (u ++ [(z, d)]) a = ix u a ∧ ix u a < u.length := fun a ha => ix_old (by
    rw [mem_nm] at ha ⊢
    rw [← hcu]
    exact ha)
  have new : ix (u ++ [(z, d)]) (z, cnt z p) = u.length := by rw [← hzu]; exact ix_new u (z, d)
  have o1 : ∀ a ∈ nm p, ix (u ++ [(z, d)]) a = ix u a ∧ ix u a < u.length := fun a ha => old a (by rw [n2]; exact List.mem_append_left _ ha)
  have o2 : ∀ a ∈ nmP p q, ix (u ++ [(z, d)]) a = ix u a ∧ ix u a < u.length := fun a ha => old a (by rw [n2]; exact List.mem_append_right _ ha)
  have i1 : inv ((nm (p ++ (z, d0) :: q)).map (ix (u ++ [(z, d)]))) = inv ((nm (p ++ q)).map (ix u)) + q.length := by
    rw [n1, n2, List.map_append, List.map_append, List.map_cons, new, List.map_congr_left fun a ha => (o1 a ha).1, List.map_congr_left fun a ha => (o2 a ha).1, inv_ins, List.length_map, nmP_len]
    · intro a ha
      obtain ⟨x, hx, rfl⟩ := List.mem_map.mp ha
      exact (o1 x hx).2
    · intro a ha
      obtain ⟨x, hx, rfl⟩ := List.mem_map.mp ha
      exact (o2 x hx).2
  have i2 : oth (p ++ (z, d0) :: q) (u ++ [(z, d)]) = oth (p ++ q) u + if d0 = d then 0 else 1 := by
    unfold oth
    rw [n1, n2, List.zip_append (by unfold nm; rw [nmP_len]), List.zip_append (by unfold nm; rw [nmP_len]), List.zip_cons_cons, List.filter_append, List.filter_append, List.filter_cons]
    have f1 : (p.zip (nm p)).filter (fun x => !decide (x.1.2 = ((u ++ [(z, d)]).getD (ix (u ++ [(z, d)]) x.2) (0, 0)).2)) = (p.zip (nm p)).filter fun x => !decide (x.1.2 = (u.getD (ix u x.2) (0, 0)).2) := List.filter_congr fun x hx => by
      obtain ⟨k1, k2⟩ := o1 x.2 (List.of_mem_zip hx).2
      rw [k1, getD_app_left k2]
    have f2 : (q.zip (nmP p q)).filter (fun x => !decide (x.1.2 = ((u ++ [(z, d)]).getD (ix (u ++ [(z, d)]) x.2) (0, 0)).2)) = (q.zip (nmP p q)).filter fun x => !decide (x.1.2 = (u.getD (ix u x.2) (0, 0)).2) := List.filter_congr fun x hx => by
      obtain ⟨k1, k2⟩ := o2 x.2 (List.of_mem_zip hx).2
      rw [k1, getD_app_left k2]
    have f3 : (u ++ [(z, d)]).getD (ix (u ++ [(z, d)]) (z, cnt z p)) (0, 0) = (z, d) := by
      rw [new, List.getD_eq_getElem?_getD, List.getElem?_append_right (Nat.le_refl _)]
      simp
    rw [f1, f2, f3]
    by_cases e : d0 = d
    · rw [if_pos e, if_neg (by simp [e]), List.length_append]
      omega
    · rw [if_neg e, if_pos (by simp [e]), List.length_append, List.length_append, List.length_cons]
      omega
  unfold far
  rw [i1, i2]
  omega
/-! ### one round -/
section
variable {f : Nat → Nat → Nat} {s h n : Nat}
theorem VH.perm {h n : Nat} {g g' : Hist} (k : VH h n g) (hl : g'.length = g.length) (hm : ∀ l ∈ g', l ∈ g) : VH h n g' := ⟨by rw [hl]; exact k.1, fun l hx => k.2 l (hm l hx)⟩
theorem exchs {z d : Nat} (t : Hist) : ∀ (q p : Hist), cnt z q = 0 → Last f s (p ++ (z, d) :: q) z d → VH h n ((p ++ (z, d) :: q) ++ t) → Lead f s h n ((p ++ (z, d) :: q) ++ t) ((List.range q.length).map fun i => .exch (p.length + i)) ((p ++ q ++ [(z, d)]) ++ t)
  | [], p, _, _, _ => by
    rw [List.append_nil]
    exact .nil _
  | l :: q, p, hq, hL, hV => by
    have hlz : l.1 ≠ z := fun e => by
      rw [cnt_cons, if_pos e] at hq
      omega
    have hq' : cnt z q = 0 := by rw [cnt_cons] at hq; omega
    have A := exch_alike f s (p := p) (q := q) (z := z) (d := d) (y := l.1) (e := l.2) hlz hq' hL
    have A' : Alike f s (p ++ (z, d) :: l :: q) ((p ++ [l]) ++ (z, d) :: q) := by
      rw [List.append_assoc]
      exact A
    have V' : VH h n (((p ++ [l]) ++ (z, d) :: q) ++ t) := hV.perm (by simp) fun x hx => by
      simp at hx ⊢
      rcases hx with w | w | w | w | w <;> simp [w]
    have ih := exchs t q (p ++ [l]) hq' (hL.alike f s A') V'
    have st : Stp ((p ++ (z, d) :: l :: q) ++ t) (.exch p.length) (((p ++ [l]) ++ (z, d) :: q) ++ t) := by
      have := Stp.exch p (z, d) l (q ++ t) fun e => hlz e.symm
      simp only [List.append_assoc, List.cons_append, List.nil_append] at this ⊢
      exact this
    have k := Lead.cons st (alike_app f s A' t) V' ih
    rw [List.length_cons, List.range_succ_eq_map, List.map_cons, List.map_map]
    have e1 : (p ++ l :: q ++ [(z, d)]) ++ t = ((p ++ [l]) ++ q ++ [(z, d)]) ++ t := by simp
    have e2 : (List.range q.length).map ((fun i => Step.exch (p.length + i)) ∘ Nat.succ) = (List.range q.length).map fun i => Step.exch ((p ++ [l]).length + i) := List.map_congr_left fun i _ => by
      show Step.exch (p.length + (i + 1)) = _
      congr 1
      rw [List.length_append]
      show _ = p.length + 1 + i
      omega
    rw [e1, e2]
    exact k
def roundSt (p q : Hist) (d0 d : Nat) : List Step := (if d0 = d then [] else [.put p.length d]) ++ (List.range q.length).map fun i => .exch (p.length + i)
theorem roundSt_len (p q : Hist) (d0 d : Nat) : (roundSt p q d0 d).length = (if d0 = d then 0 else 1) + q.length := by
  unfold roundSt
  rw [List.length_append, List.length_map, List.length_range]
  by_cases e : d0 = d
  · rw [if_pos e, if_pos e]
    rfl
  · rw [if_neg e, if_neg e]
    rfl
theorem round {p q u t : Hist} {z d0 d : Nat} (hq : cnt z q = 0) (A : Alike f s (p ++ (z, d0) :: q) (u ++ [(z, d)])) (hV : VH h n ((p ++ (z, d0) :: q) ++ t)) (hd : d < n) :
    Lead f s h n ((p ++ (z, d0) :: q) ++ t) (roundSt p q d0 d) ((p ++ q ++ [(z, d)]) ++ t) ∧ Alike f s (p ++ q) u := by
  have hL := (last_end f s u z d).alike f s (Alike.symm f s A)
  have A1 := put_alike f s hq hL
  have hL1 := hL.alike f s A1
  have hz : z < h := (hV.2 (z, d0) (by simp)).1
  have V1 : VH h n ((p ++ (z, d) :: q) ++ t) := ⟨by have := hV.1; simp at this ⊢; omega, fun x hx => by
    by_cases e : x = (z, d)
    · rw [e]
      exact ⟨hz, hd⟩
    · refine hV.2 x ?_
      simp at hx ⊢
      rcases hx with w | w | w | w
      · simp [w]
      · exact absurd w e
      · simp [w]
      · simp [w]⟩
  have E := exchs t q p hq hL1 V1
  have L : Lead f s h n ((p ++ (z, d0) :: q) ++ t) (roundSt p q d0 d) ((p ++ q ++ [(z, d)]) ++ t) := by
    unfold roundSt
    by_cases e : d0 = d
    · subst e
      rw [if_pos rfl]
      exact E
    · rw [if_neg e]
      have st : Stp ((p ++ (z, d0) :: q) ++ t) (.put p.length d) ((p ++ (z, d) :: q) ++ t) := by
        have := Stp.put p z d0 d (q ++ t) e
        simp only [List.append_assoc, List.cons_append] at this ⊢
        exact this
      exact Lead.cons st (alike_app f s A1 t) V1 E
  refine ⟨L, alike_init f s (l := (z, d)) ?_⟩
  have L0 := exchs (f := f) (s := s) (h := h) (n := n) [] q p hq hL1 (by rw [List.append_nil]; exact ⟨by have := V1.1; simp at this ⊢; omega, fun x hx => V1.2 x (List.mem_append_left _ hx)⟩)
  have k := L0.alike
  rw [List.append_nil, List.append_nil] at k
  exact Alike.trans f s (Alike.symm f s k) (Alike.trans f s (Alike.symm f s A1) A)
end
end Ow
end

section
set_option linter.all false
set_option maxRecDepth 100000
set_option maxHeartbeats 4000000
set_option autoImplicit false
/-! Defs: backs, tables of histories, lasts. -/
namespace Ow
open PySem L2 OwL Om
open PyProof.Rows (envOfC)

theorem all_map {α : Type} (l : List α) (p : α → Bool) : (l.map p).all id = l.all p := by
  rw [List.all_map]
  rfl
theorem fits_lss {cs : List Nat} {z : Nat} (hz : z < cs.length) : Fits (lss cs z) cs := ⟨lss_len cs z, fun i => by
  unfold lss
  rw [At_set hz]
  by_cases e : i = z
  · subst e
    rw [setN_same]
    omega
  · rw [setN_ne _ _ e]
    exact Nat.le_refl _⟩
theorem eTg_back {m : Mach} {h : Nat} {p q : Hist} {z d : Nat} (hz : z < h) (hq : cnt z q = 0) : eT (lss (counts h (p ++ (z, d) :: q)) z) (tab m (p ++ (z, d) :: q)) = eTg m h (p ++ q) := by
  rw [← counts_back hz]
  exact eT_congr fun v hv => tab_back hz hq hv


abbrev s_with_back : Stmt := top 56
theorem sc_with_back : FnScope ["table", "hand", "told", "place", "many"] ["table", "hand"] (defScope s_with_back) := ⟨rfl, rfl, rfl, by decide +kernel, rfl, by decide +kernel, by decide +kernel⟩
abbrev N_with_back : List Str := ["table", "hand", "told", "place", "many"]
abbrev T_with_back (P : Program) (w : World) (K : PySem.W.Frag) (mg : Str → Option Value) (base : Heap) : Prop := CalF P w K mg base "with_back" 7 ["table", "hand"] (spF (α := List Nat × (List Nat → Nat) × Nat) (fun a => [eT a.1 a.2.1, eN a.2.2]) (fun a => TbOk a.1 a.2.1 8 ∧ a.2.2 < a.1.length ∧ 1 ≤ At a.1 a.2.2) (fun a => eT (lss a.1 a.2.2) a.2.1))
section
variable {P : Program} {w : World} {K : PySem.W.Frag} {mg : Str → Option Value} {base : Heap}
theorem c_with_back (B : Blt mg) (G : Gls mg) (D : DefAt K mg "with_back" s_with_back) (C_check_part : T_check_part P w K mg base) (C_need_hand : T_need_hand P w K mg base) (C_part_of : T_part_of P w K mg base)  : T_with_back P w K mg base := by
  obtain ⟨f, fd, h1, F⟩ := D.ex
  refine ⟨f, fd, h1, F.kp, F.bindsN fun _ _ _ _ _ _ us hl => match us, hl with | [_, _], _ => rfl, ?_⟩
  refine fn_D F sc_with_back (fun _ => rfl) (fun a => [.arg (eT a.1 a.2.1), .arg (eN a.2.2)]) (fun _ _ => as_ok ⟨aA, aA, trivial⟩) fun ⟨cs, b, z⟩ hp cdv A outer s H E hr => ?_
  try dsimp only at hp
  have c := ctx_of (P := P) (w := w) (K := K) (base := base) (f := f) (cdv := cdv) (outer := outer) (H := H) (E := E) B sc_with_back.nd hr
  obtain ⟨ht, hz, h1z⟩ : TbOk cs b 8 ∧ z < cs.length ∧ 1 ≤ At cs z := hp
  have h4 := ht.1.four
  have iv0 : ∀ {X : Cx} {S : List Sl} {p p2 p3 : Pos} {k : Nat}, EvD X (.Name "told" p) S (eT cs b) → EvD X (.Subscript (.Name "told" p) (.Constant (.int 0) k p2) p3) S (eNs cs) := fun h => ev_ixT (i := 0) h ev_int rfl
  refine run_cons (run_set 2 (.dat (eT cs b)) c ⟨imm_T cs b, ev_call C_check_part hr (cs, b, 8) ht (eds_cons (ev_var 0 rfl rfl) (eds_one (ev_gint G.boards)))⟩ ?_)
  refine run_cons (run_if (k := false) (EvT.is (et_cmp (od_eqi c) (ev_N (iv0 (ev_var 2 rfl rfl)) (ev_call C_need_hand hr (cs, b, z) hz (eds_cons (ev_var 2 rfl rfl) (eds_one (ev_var 1 rfl rfl)))) hz) ev_int) (by simp; omega)) (fun z => nomatch z) fun _ => run_nil ?_)
  exact run_one (run_ret (ev_call C_part_of hr (cs, b, lss cs z) ⟨ht, fits_lss hz⟩ (eds_cons (ev_var 2 rfl rfl) (eds_one (EvD.is (ev_ct ca_tupL c.tuple boot_tuple (eds_one (EvN.toD (ev_lca c [("place", 3), ("many", 4)] rfl (en cs) (fun x => .tup [.dat (eN x.1), .dat (eN x.2)]) [3, 4] (fun x => [_, .arg (eN z), _, .dat (eN x.1), .dat (eN x.2)]) (fun x => eN (lessAt z x)) (it_enum c (iv0 (ev_var 2 rfl rfl)) (imms_N _)) (en_N _) rfl (by rw [en_len]; omega) (by decide) (fun x hx s H C cl fp => g_tup2 3 4 c.blk) fun x hx => ⟨rfl, fun s H C cl fp => ev_ife (k := decide (x.1 = z)) (EvT.is (et_cmp (od_eqi c.blk) (ev_var 3 rfl rfl) (ev_var 1 rfl rfl)) (eqN _ _)) (fun q => EvD.is (ev_bin od_sub (ev_var 4 rfl rfl) ev_int) (by
    have q := of_decide_eq_true q
    have hx2 := At_of (en_get hx)
    rw [q] at hx2
    unfold lessAt
    rw [if_pos q]
    exact congrArg PyData.int (by omega))) (fun q => EvD.is (ev_var 4 rfl rfl) (by unfold lessAt; rw [if_neg (of_decide_eq_false q)]))⟩)))) (by rw [lss_en hz]; unfold eNs; rw [List.map_map]; rfl))))) rfl)
end

abbrev s_table_of : Stmt := top 57
theorem sc_table_of : FnScope ["machine", "hands", "history", "rules", "found", "hand", "deed"] ["machine", "hands", "history"] (defScope s_table_of) := ⟨rfl, rfl, rfl, by decide +kernel, rfl, by decide +kernel, by decide +kernel⟩
abbrev N_table_of : List Str := ["machine", "hands", "history", "rules", "found", "hand", "deed"]
abbrev T_table_of (P : Program) (w : World) (K : PySem.W.Frag) (mg : Str → Option Value) (base : Heap) : Prop := CalF P w K mg base "table_of" 10 ["machine", "hands", "history"] (spF (α := Mach × Nat × Hist) (fun a => [eM a.1, eN a.2.1, eH a.2.2]) (fun a => VM a.1 ∧ VHd a.2.1 ∧ VH a.2.1 a.1.ds.length a.2.2) (fun a => eTg a.1 a.2.1 a.2.2))
section
variable {P : Program} {w : World} {K : PySem.W.Frag} {mg : Str → Option Value} {base : Heap}
theorem c_table_of (B : Blt mg) (G : Gls mg) (D : DefAt K mg "table_of" s_table_of) (C_check_machine : T_check_machine P w K mg base) (C_first_table : T_first_table P w K mg base) (C_check_history : T_check_history P w K mg base) (C_grown : T_grown P w K mg base)  : T_table_of P w K mg base := by
  obtain ⟨f, fd, h1, F⟩ := D.ex
  refine ⟨f, fd, h1, F.kp, F.bindsN fun _ _ _ _ _ _ us hl => match us, hl with | [_, _, _], _ => rfl, ?_⟩
  refine fn_D F sc_table_of (fun _ => rfl) (fun a => [.arg (eM a.1), .arg (eN a.2.1), .arg (eH a.2.2)]) (fun _ _ => as_ok ⟨aA, aA, aA, trivial⟩) fun ⟨m, h, g⟩ hp cdv A outer s H E hr => ?_
  try dsimp only at hp
  have c := ctx_of (P := P) (w := w) (K := K) (base := base) (f := f) (cdv := cdv) (outer := outer) (H := H) (E := E) B sc_table_of.nd hr
  obtain ⟨hm, hh, hg⟩ : VM m ∧ VHd h ∧ VH h m.ds.length g := hp
  refine run_cons (run_set 3 (.dat (eM m)) c ⟨imm_M m, ev_call C_check_machine hr (false, m) hm (eds_one (ev_var 0 rfl rfl))⟩ ?_)
  refine run_cons (run_set 4 (.dat (eTg m h [])) c ⟨imm_T _ _, ev_call C_first_table hr (m, h) ⟨hm, hh⟩ (eds_cons (ev_var 3 rfl rfl) (eds_one (ev_var 1 rfl rfl)))⟩ ?_)
  refine run_cons (run_for c (items := g.map fun l => .one (.dat (eL l))) (S0 := [.arg (eM m), .arg (eN h), .arg (eH g), .dat (eM m), .dat (eTg m h []), .any, .any]) (S' := [.arg (eM m), .arg (eN h), .arg (eH g), .dat (eM m), .dat (eTg m h g), .any, .any]) (dats_map eL g ▸ it_tup (ev_call C_check_history hr (m, h, false, g) ⟨hm, hh, hg⟩ (eds_cons (ev_var 3 rfl rfl) (eds_cons (ev_var 1 rfl rfl) (eds_one (ev_var 2 rfl rfl))))) (imms_L g)) (fun _ _ _ _ E => E) (for_run (fun l => .one (.dat (eL l))) (fun u => [.arg (eM m), .arg (eN h), .arg (eH g), .dat (eM m), .dat (eTg m h u), .any, .any]) g fun u l v e => ⟨[5, 6], _, GTo.ofTup (g_tup2 5 6 c), ?_⟩) ?_)
  · have hu : VH h m.ds.length (u ++ [l]) := ⟨by have := hg.1; rw [← e] at this; simp at this ⊢; omega, fun x hx => hg.2 x (by rw [← e]; rcases List.mem_append.mp hx with w | w; simp [w]; simp at w; simp [w])⟩
    exact run_one (run_set 4 (.dat (eTg m h (u ++ [l]))) c ⟨imm_T _ _, ev_call C_grown hr (m, h, u, l.1, l.2) ⟨hm, hh, hu⟩ (eds_cons (ev_var 3 rfl rfl) (eds_cons (ev_var 4 rfl rfl) (eds_cons (ev_var 5 rfl rfl) (eds_one (ev_var 6 rfl rfl)))))⟩ ⟨[5, 6], rfl⟩)
  · exact run_one (run_ret (ev_var 4 rfl rfl) rfl)
end

abbrev s_lessened : Stmt := top 59
theorem sc_lessened : FnScope ["vector", "hand"] ["vector", "hand"] (defScope s_lessened) := ⟨rfl, rfl, rfl, by decide +kernel, rfl, by decide +kernel, by decide +kernel⟩
abbrev N_lessened : List Str := ["vector", "hand"]
abbrev T_lessened (P : Program) (w : World) (K : PySem.W.Frag) (mg : Str → Option Value) (base : Heap) : Prop := CalF P w K mg base "lessened" 1 ["vector", "hand"] (spF (α := List Nat × Nat) (fun a => [eNs a.1, eN a.2]) (fun a => a.2 < a.1.length ∧ 1 ≤ At a.1 a.2 ∧ a.1.length ≤ 4) (fun a => eNs (lss a.1 a.2)))
section
variable {P : Program} {w : World} {K : PySem.W.Frag} {mg : Str → Option Value} {base : Heap}
theorem c_lessened (B : Blt mg) (G : Gls mg) (D : DefAt K mg "lessened" s_lessened)   : T_lessened P w K mg base := by
  obtain ⟨f, fd, h1, F⟩ := D.ex
  refine ⟨f, fd, h1, F.kp, F.bindsN fun _ _ _ _ _ _ us hl => match us, hl with | [_, _], _ => rfl, ?_⟩
  refine fn_D F sc_lessened (fun _ => rfl) (fun a => [.arg (eNs a.1), .arg (eN a.2)]) (fun _ _ => as_ok ⟨aA, aA, trivial⟩) fun ⟨v, z⟩ hp cdv A outer s H E hr => ?_
  try dsimp only at hp
  have c := ctx_of (P := P) (w := w) (K := K) (base := base) (f := f) (cdv := cdv) (outer := outer) (H := H) (E := E) B sc_lessened.nd hr
  obtain ⟨hz, h1, h4⟩ : z < v.length ∧ 1 ≤ At v z ∧ v.length ≤ 4 := hp
  have hc1 : (cutD (v.map eN) none (some (z : Int))).length + [PyData.int (((At v z : Nat) : Int) - 1)].length ≤ 100000 := by
    have := cutD_len (v.map eN) none (some (z : Int))
    rw [List.length_map] at this
    show _ + 1 ≤ _
    omega
  have hc2 : (cutD (v.map eN) none (some (z : Int)) ++ [PyData.int (((At v z : Nat) : Int) - 1)]).length + (cutD (v.map eN) (some ((z : Int) + 1)) none).length ≤ 100000 := by
    have h1 := cutD_len (v.map eN) (some ((z : Int) + 1)) none
    have h2 := cutD_len (v.map eN) none (some (z : Int))
    rw [List.length_map] at h1 h2
    rw [List.length_append]
    show _ + 1 + _ ≤ _
    omega
  exact run_one (run_ret (EvD.is (ev_bin (od_cat hc2) (ev_bin (od_cat hc1) (ev_slT (ev_var 0 rfl rfl) eo_none (eo_some (ev_var 1 rfl rfl))) (ev_tup (eds_one (ev_bin od_sub (ev_N (ev_var 0 rfl rfl) (ev_var 1 rfl rfl) hz) ev_int)))) (ev_slT (ev_var 0 rfl rfl) (eo_some (ev_bin od_add (ev_var 1 rfl rfl) ev_int)) eo_none)) (lss_data hz h1)) rfl)
end

abbrev s_does_all : Stmt := top 60
theorem sc_does_all : FnScope ["step", "pairs", "board", "later"] ["step", "pairs"] (defScope s_does_all) := ⟨rfl, rfl, rfl, by decide +kernel, rfl, by decide +kernel, by decide +kernel⟩
abbrev N_does_all : List Str := ["step", "pairs", "board", "later"]
abbrev T_does_all (P : Program) (w : World) (K : PySem.W.Frag) (mg : Str → Option Value) (base : Heap) : Prop := CalF P w K mg base "does_all" 1 ["step", "pairs"] (spF (α := List Nat × List (Nat × Nat)) (fun a => [eNs a.1, .tuple (a.2.map eL)]) (fun a => (∀ p ∈ a.2, p.1 < a.1.length) ∧ a.2.length ≤ 100000) (fun a => .bool (doesAll a.1 a.2)))
section
variable {P : Program} {w : World} {K : PySem.W.Frag} {mg : Str → Option Value} {base : Heap}
theorem c_does_all (B : Blt mg) (G : Gls mg) (D : DefAt K mg "does_all" s_does_all)   : T_does_all P w K mg base := by
  obtain ⟨f, fd, h1, F⟩ := D.ex
  refine ⟨f, fd, h1, F.kp, F.bindsN fun _ _ _ _ _ _ us hl => match us, hl with | [_, _], _ => rfl, ?_⟩
  refine fn_D F sc_does_all (fun _ => rfl) (fun a => [.arg (eNs a.1), .arg (.tuple (a.2.map eL))]) (fun _ _ => as_ok ⟨aA, aA, trivial⟩) fun ⟨r, ps⟩ hp cdv A outer s H E hr => ?_
  try dsimp only at hp
  have c := ctx_of (P := P) (w := w) (K := K) (base := base) (f := f) (cdv := cdv) (outer := outer) (H := H) (E := E) B sc_does_all.nd hr
  refine run_one (run_ret (EvD.is (ev_cb (ca_all c (bs := ps.map fun p => decide (At r p.1 = p.2))) c.all boot_all (eds_one (EvN.toD (ev_lca c [("board", 2), ("later", 3)] rfl ps (fun x => .one (.dat (eL x))) [2, 3] (fun x => [.arg (eNs r), _, .dat (eN x.1), .dat (eN x.2)]) (fun p => .bool (decide (At r p.1 = p.2))) (it_tup (ev_var 1 rfl rfl) (imms_map fun l _ => imm_L l)) (dats_map _ _) ?_ hp.2 (by decide) (fun x hx s H C cl fp => GTo.ofTup (g_tup2 2 3 c.blk)) fun x hx => ⟨rfl, fun s H C cl fp => EvD.is (ev_cmp (od_eqi c.blk) (ev_N (ev_var 0 rfl rfl) (ev_var 2 rfl rfl) (hp.1 x hx)) (ev_var 3 rfl rfl)) (congrArg PyData.bool (eqN _ _))⟩)))) (congrArg PyData.bool (all_map ps _))) rfl)
  rw [List.map_map]
  rfl
end

theorem en_row {m : Mach} (v : VM m) {x : Nat × List Nat} (h : x ∈ en m.ds) : x.2.length = m.b := (v.row x.2 (en_mem h)).1
theorem en_Ns (ds : List (List Nat)) : ((ds.map eNs).mapIdx fun i d => Itm.tup [.dat (.int (i : Nat)), .dat d]) = (en ds).map fun x => Itm.tup [.dat (eN x.1), .dat (eNs x.2)] := en_map _ _ _


abbrev s_deeds_doing : Stmt := top 61
theorem sc_deeds_doing : FnScope ["rules", "pairs", "deed", "step"] ["rules", "pairs"] (defScope s_deeds_doing) := ⟨rfl, rfl, rfl, by decide +kernel, rfl, by decide +kernel, by decide +kernel⟩
abbrev N_deeds_doing : List Str := ["rules", "pairs", "deed", "step"]
abbrev T_deeds_doing (P : Program) (w : World) (K : PySem.W.Frag) (mg : Str → Option Value) (base : Heap) : Prop := CalF P w K mg base "deeds_doing" 2 ["rules", "pairs"] (spF (α := Mach × List (Nat × Nat)) (fun a => [eM a.1, .tuple (a.2.map eL)]) (fun a => VM a.1 ∧ (∀ p ∈ a.2, p.1 < a.1.b) ∧ a.2.length ≤ 100000) (fun a => eNs (deedsDoing a.1 a.2)))
section
variable {P : Program} {w : World} {K : PySem.W.Frag} {mg : Str → Option Value} {base : Heap}
theorem c_deeds_doing (B : Blt mg) (G : Gls mg) (D : DefAt K mg "deeds_doing" s_deeds_doing) (C_does_all : T_does_all P w K mg base)  : T_deeds_doing P w K mg base := by
  obtain ⟨f, fd, h1, F⟩ := D.ex
  refine ⟨f, fd, h1, F.kp, F.bindsN fun _ _ _ _ _ _ us hl => match us, hl with | [_, _], _ => rfl, ?_⟩
  refine fn_D F sc_deeds_doing (fun _ => rfl) (fun a => [.arg (eM a.1), .arg (.tuple (a.2.map eL))]) (fun _ _ => as_ok ⟨aA, aA, trivial⟩) fun ⟨m, ps⟩ hp cdv A outer s H E hr => ?_
  try dsimp only at hp
  have c := ctx_of (P := P) (w := w) (K := K) (base := base) (f := f) (cdv := cdv) (outer := outer) (H := H) (E := E) B sc_deeds_doing.nd hr
  obtain ⟨hm, h1, h2⟩ : VM m ∧ (∀ p ∈ ps, p.1 < m.b) ∧ ps.length ≤ 100000 := hp
  have d6 := hm.d6
  exact run_one (run_ret (EvD.is (ev_ct ca_tupL c.tuple boot_tuple (eds_one (EvN.toD (ev_lci c [("deed", 2), ("step", 3)] rfl (en m.ds) (fun x => .tup [.dat (eN x.1), .dat (eNs x.2)]) [2, 3] (fun x => [_, .arg (.tuple (ps.map eL)), .dat (eN x.1), .dat (eNs x.2)]) (fun x => doesAll x.2 ps) (fun x => eN x.1) (it_enum c (ev_ixT (i := 1) (ev_var 0 rfl rfl) ev_int rfl) (imms_map fun l _ => imm_Ns l)) (en_Ns _) rfl (by rw [en_len]; omega) (by decide) (fun x hx s H C cl fp => g_tup2 2 3 c.blk) (fun x hx s H C cl fp => ets_one (et_val (ev_call C_does_all hr (x.2, ps) ⟨fun p hp => by rw [en_row hm hx]; exact h1 p hp, h2⟩ (eds_cons (ev_var 3 rfl rfl) (eds_one (ev_var 1 rfl rfl)))))) fun x hx _ => ⟨rfl, fun s H C cl fp => ev_var 2 rfl rfl⟩)))) (by unfold deedsDoing eNs; rw [List.map_map]; rfl)) rfl)
end

abbrev s_last_pairs : Stmt := top 62
theorem sc_last_pairs : FnScope ["told", "hand", "found", "vector", "less"] ["told", "hand"] (defScope s_last_pairs) := ⟨rfl, rfl, rfl, by decide +kernel, rfl, by decide +kernel, by decide +kernel⟩
abbrev N_last_pairs : List Str := ["told", "hand", "found", "vector", "less"]
abbrev T_last_pairs (P : Program) (w : World) (K : PySem.W.Frag) (mg : Str → Option Value) (base : Heap) : Prop := CalF P w K mg base "last_pairs" 6 ["told", "hand"] (spF (α := List Nat × (List Nat → Nat) × Nat) (fun a => [eT a.1 a.2.1, eN a.2.2]) (fun a => CsOk a.1 ∧ a.2.2 < a.1.length ∧ 1 ≤ At a.1 a.2.2) (fun a => .tuple ((pairsOf a.1 a.2.1 a.2.2 (vecs a.1)).map eL)))
section
variable {P : Program} {w : World} {K : PySem.W.Frag} {mg : Str → Option Value} {base : Heap}
theorem c_last_pairs (B : Blt mg) (G : Gls mg) (D : DefAt K mg "last_pairs" s_last_pairs) (C_vectors : T_vectors P w K mg base) (C_lessened : T_lessened P w K mg base) (C_place_of : T_place_of P w K mg base)  : T_last_pairs P w K mg base := by
  obtain ⟨f, fd, h1, F⟩ := D.ex
  refine ⟨f, fd, h1, F.kp, F.bindsN fun _ _ _ _ _ _ us hl => match us, hl with | [_, _], _ => rfl, ?_⟩
  refine fn_D F sc_last_pairs (fun _ => rfl) (fun a => [.arg (eT a.1 a.2.1), .arg (eN a.2.2)]) (fun _ _ => as_ok ⟨aA, aA, trivial⟩) fun ⟨cs, b, z⟩ hp cdv A outer s H E hr => ?_
  try dsimp only at hp
  have c := ctx_of (P := P) (w := w) (K := K) (base := base) (f := f) (cdv := cdv) (outer := outer) (H := H) (E := E) B sc_last_pairs.nd hr
  obtain ⟨ht, hz, h1z⟩ : CsOk cs ∧ z < cs.length ∧ 1 ≤ At cs z := hp
  have h4 := ht.four
  have h1024 := vecs_1024 ht.sum
  have iv0 : ∀ {X : Cx} {S : List Sl} {p p2 p3 : Pos} {k : Nat}, EvD X (.Name "told" p) S (eT cs b) → EvD X (.Subscript (.Name "told" p) (.Constant (.int 0) k p2) p3) S (eNs cs) := fun h => ev_ixT (i := 0) h ev_int rfl
  have iv1 : ∀ {X : Cx} {S : List Sl} {p p2 p3 : Pos} {k : Nat}, EvD X (.Name "told" p) S (eT cs b) → EvD X (.Subscript (.Name "told" p) (.Constant (.int 1) k p2) p3) S (.tuple ((vecs cs).map fun v => eN (b v))) := fun h => ev_ixT (i := 1) h ev_int rfl
  refine run_cons (run_set 2 (.lst []) c ⟨rfl, ev_lst eds_nil⟩ ?_)
  refine run_cons (run_for c (items := (vecs cs).map fun l => .one (.dat (eNs l))) (S0 := [.arg (eT cs b), .arg (eN z), .lst ((pairsOf cs b z []).map eL), .any, .any]) (S' := [.arg (eT cs b), .arg (eN z), .lst ((pairsOf cs b z (vecs cs)).map eL), .any, .any]) (dats_map eNs _ ▸ it_tup (ev_call C_vectors hr _ ht (eds_one (iv0 (ev_var 0 rfl rfl)))) (imms_map fun x _ => imm_Ns x)) (fun _ _ _ _ E => E) (for_run (fun l => .one (.dat (eNs l))) (fun u => [.arg (eT cs b), .arg (eN z), .lst ((pairsOf cs b z u).map eL), .any, .any]) _ fun u v t e => ⟨[3], _, g_name 3 c.nd, ?_⟩) ?_)
  · have hf : Fits v cs := (mem_vecs _ v).mp (by rw [← e]; simp)
    have hvl : z < v.length := by rw [hf.1]; exact hz
    have hul : u.length < 100000 := by have := congrArg List.length e; simp at this; omega
    refine run_one (run_if (k := decide (At v z = At cs z)) (EvT.is (et_cmp (od_eqi c) (ev_N (ev_var 3 rfl rfl) (ev_var 1 rfl rfl) hvl) (ev_N (iv0 (ev_var 0 rfl rfl)) (ev_var 1 rfl rfl) hz)) (eqN _ _)) (fun q => ?_) fun q => ?_)
    · have q := of_decide_eq_true q
      have hls : Fits (lss v z) cs := (fits_lss hvl).trans hf
      refine run_cons (run_set 4 (.dat (eN (place cs (lss v z)))) c ⟨rfl, ev_call C_place_of hr (cs, lss v z) ⟨ht, hls⟩ (eds_cons (iv0 (ev_var 0 rfl rfl)) (eds_one (ev_call C_lessened hr (v, z) ⟨hvl, by rw [q]; exact h1z, by rw [hf.1]; exact h4⟩ (eds_cons (ev_var 3 rfl rfl) (eds_one (ev_var 1 rfl rfl))))))⟩ ?_)
      refine run_one (run_append 2 rfl (ev_tup (eds_cons (ev_ixT (iv1 (ev_var 0 rfl rfl)) (ev_var 4 rfl rfl) (atI_B hls)) (eds_one (ev_ixT (iv1 (ev_var 0 rfl rfl)) (ev_call C_place_of hr (cs, v) ⟨ht, hf⟩ (eds_cons (iv0 (ev_var 0 rfl rfl)) (eds_one (ev_var 3 rfl rfl)))) (atI_B hf))))) rfl (by rw [List.length_map]; have := pairsOf_len cs b z u; omega) ⟨[3, 4], ?_⟩)
      rw [pairsOf_snoc, if_pos q, List.map_append]
      rfl
    · refine run_nil ⟨[3], ?_⟩
      rw [pairsOf_snoc, if_neg (of_decide_eq_false q), List.append_nil]
      rfl
  · exact run_one (run_ret (ev_ct ca_tupL c.tuple boot_tuple (eds_one (ev_var 2 rfl rfl))) rfl)
end

abbrev s_lasts : Stmt := top 63
theorem sc_lasts : FnScope ["machine", "table", "rules", "told", "found", "hand", "many", "some"] ["machine", "table"] (defScope s_lasts) := ⟨rfl, rfl, rfl, by decide +kernel, rfl, by decide +kernel, by decide +kernel⟩
abbrev N_lasts : List Str := ["machine", "table", "rules", "told", "found", "hand", "many", "some"]
abbrev T_lasts (P : Program) (w : World) (K : PySem.W.Frag) (mg : Str → Option Value) (base : Heap) : Prop := CalF P w K mg base "lasts" 9 ["machine", "table"] (spF (α := Mach × List Nat × (List Nat → Nat)) (fun a => [eM a.1, eT a.2.1 a.2.2]) (fun a => VM a.1 ∧ TbOk a.2.1 a.2.2 a.1.b) (fun a => eH (lastsOf a.1 a.2.1 a.2.2 (en a.2.1))))
section
variable {P : Program} {w : World} {K : PySem.W.Frag} {mg : Str → Option Value} {base : Heap}
theorem c_lasts (B : Blt mg) (G : Gls mg) (D : DefAt K mg "lasts" s_lasts) (C_check_machine : T_check_machine P w K mg base) (C_check_table : T_check_table P w K mg base) (C_deeds_doing : T_deeds_doing P w K mg base) (C_last_pairs : T_last_pairs P w K mg base)  : T_lasts P w K mg base := by
  obtain ⟨f, fd, h1, F⟩ := D.ex
  refine ⟨f, fd, h1, F.kp, F.bindsN fun _ _ _ _ _ _ us hl => match us, hl with | [_, _], _ => rfl, ?_⟩
  refine fn_D F sc_lasts (fun _ => rfl) (fun a => [.arg (eM a.1), .arg (eT a.2.1 a.2.2)]) (fun _ _ => as_ok ⟨aA, aA, trivial⟩) fun ⟨m, cs, b⟩ hp cdv A outer s H E hr => ?_
  try dsimp only at hp
  have c := ctx_of (P := P) (w := w) (K := K) (base := base) (f := f) (cdv := cdv) (outer := outer) (H := H) (E := E) B sc_lasts.nd hr
  obtain ⟨hm, ht⟩ : VM m ∧ TbOk cs b m.b := hp
  have h4 := ht.1.four
  have h1024 := vecs_1024 ht.1.sum
  have d6 := hm.d6
  refine run_cons (run_set 2 (.dat (eM m)) c ⟨imm_M m, ev_call C_check_machine hr (false, m) hm (eds_one (ev_var 0 rfl rfl))⟩ ?_)
  refine run_cons (run_par 3 4 (.dat (eT cs b)) (.lst []) c ⟨imm_T _ _, ev_call C_check_table hr (m, cs, b) ⟨hm, ht⟩ (eds_cons (ev_var 2 rfl rfl) (eds_one (ev_var 1 rfl rfl)))⟩ ⟨rfl, ev_lst eds_nil⟩ (by decide) ?_)
  refine run_cons (run_for c (items := (en cs).map fun x => .tup [.dat (eN x.1), .dat (eN x.2)]) (S0 := [.arg (eM m), .arg (eT cs b), .dat (eM m), .dat (eT cs b), .lst ((lastsOf m cs b []).map eL), .any, .any, .any]) (S' := [.arg (eM m), .arg (eT cs b), .dat (eM m), .dat (eT cs b), .lst ((lastsOf m cs b (en cs)).map eL), .any, .any, .any]) (en_N cs ▸ it_enum c (ev_ixT (i := 0) (ev_var 3 rfl rfl) ev_int rfl) (imms_N _)) (fun _ _ _ _ E => E) (for_run (fun x => .tup [.dat (eN x.1), .dat (eN x.2)]) (fun u => [.arg (eM m), .arg (eT cs b), .dat (eM m), .dat (eT cs b), .lst ((lastsOf m cs b u).map eL), .any, .any, .any]) _ fun u x t e => ⟨[5, 6], _, g_tup2 5 6 c, ?_⟩) ?_)
  · have hx : x ∈ en cs := by rw [← e]; simp
    have hxz : x.1 < cs.length := (List.getElem?_eq_some_iff.mp (en_get hx)).1
    have hxa := At_of (en_get hx)
    have hul : u.length ≤ 4 := by have := congrArg List.length e; rw [en_len] at this; simp at this; omega
    have hsl : ∀ p ∈ pairsOf cs b x.1 (vecs cs), p.1 < m.b := fun p hp => by
      unfold pairsOf at hp
      obtain ⟨v, hv, rfl⟩ := List.mem_map.mp hp
      have hf := (mem_vecs cs v).mp (List.mem_filter.mp hv).1
      exact ht.2 _ ((mem_vecs cs _).mpr ((fits_lss (by rw [hf.1]; exact hxz)).trans hf))
    refine run_cons (run_set 7 (.dat (eNs (someAt m cs b x))) c ⟨imm_Ns _, ev_ife (k := decide (0 < x.2)) (EvT.is (et_cmp od_gt (ev_var 6 rfl rfl) ev_int) (ltN 0 x.2)) (fun q => EvD.is (ev_call C_deeds_doing hr (m, pairsOf cs b x.1 (vecs cs)) ⟨hm, hsl, by have := pairsOf_len cs b x.1 (vecs cs); show (pairsOf cs b x.1 (vecs cs)).length ≤ _; omega⟩ (eds_cons (ev_var 2 rfl rfl) (eds_one (ev_call C_last_pairs hr (cs, b, x.1) ⟨ht.1, hxz, by have := of_decide_eq_true q; show 1 ≤ At cs x.1; omega⟩ (eds_cons (ev_var 3 rfl rfl) (eds_one (ev_var 5 rfl rfl))))))) (by unfold someAt; rw [if_pos (of_decide_eq_true q)])) (fun q => EvD.is (ev_tup eds_nil) (by unfold someAt; rw [if_neg (of_decide_eq_false q)]; rfl))⟩ ?_)
    have hsm := lastsOf_snoc m cs b u x
    have hll := lastsOf_len m cs b u
    generalize someAt m cs b x = sm at hsm ⊢
    refine run_one (run_if (k := decide (0 < sm.length)) (EvT.is (et_cmp od_gt (ev_cb ca_lenT c.len boot_len (eds_one (ev_var 7 rfl rfl))) ev_int) (by rw [List.length_map]; exact ltN 0 _)) (fun q => ?_) fun q => ?_)
    · cases sm with
      | nil => cases q
      | cons d r =>
        refine run_one (run_append 4 rfl (ev_tup (eds_cons (ev_var 5 rfl rfl) (eds_one (ev_ixT (i := 0) (d := eN d) (ev_var 7 rfl rfl) ev_int (atI_map (f := eN) (i := 0) (l := d :: r) rfl))))) rfl (by rw [List.length_map]; omega) ⟨[5, 6, 7], ?_⟩)
        rw [hsm, List.map_append]
        rfl
    · cases sm with
      | cons d r => simp at q
      | nil =>
        refine run_nil ⟨[5, 6, 7], ?_⟩
        rw [hsm]
        simp only [headL, List.append_nil]
        rfl
  · exact run_one (run_ret (ev_ct ca_tupL c.tuple boot_tuple (eds_one (ev_var 4 rfl rfl))) rfl)
end
end Ow
end

section
set_option linter.all false
set_option maxRecDepth 100000
set_option maxHeartbeats 4000000
set_option autoImplicit false
/-! Defs: normal. -/
namespace Ow
open PySem L2 OwL Om
open PyProof.Rows (envOfC)

theorem first_board {m : Mach} {h : Nat} (hh : VHd h) : eTg m h [] = .tuple [eNs (counts h []), .tuple [eN m.s]] := by
  obtain ⟨h2, h4⟩ := hh
  have : h = 2 ∨ h = 3 ∨ h = 4 := by omega
  rcases this with rfl | rfl | rfl <;> rfl
theorem any_pos (cs : List Nat) : ((cs.map fun k => decide (0 < k)).any id) = true ↔ ∃ k ∈ cs, 0 < k := by
  rw [List.any_map, List.any_eq_true]
  exact ⟨fun ⟨k, h1, h2⟩ => ⟨k, h1, of_decide_eq_true h2⟩, fun ⟨k, h1, h2⟩ => ⟨k, h1, decide_eq_true h2⟩⟩
theorem counts_pos {h n : Nat} {g : Hist} (hg : VH h n g) : (((counts h g).map fun k => decide (0 < k)).any id) = true ↔ g ≠ [] := by
  rw [any_pos]
  constructor
  · rintro ⟨k, h1, h2⟩ rfl
    unfold counts at h1
    obtain ⟨z, _, rfl⟩ := List.mem_map.mp h1
    exact absurd h2 (Nat.lt_irrefl 0)
  · intro hne
    cases g with
    | nil => exact absurd rfl hne
    | cons l g =>
      refine ⟨cnt l.1 (l :: g), List.mem_map.mpr ⟨l.1, List.mem_range.mpr (hg.2 l List.mem_cons_self).1, rfl⟩, ?_⟩
      rw [cnt_cons, if_pos rfl]
      omega


abbrev s_normal : Stmt := top 65
theorem sc_normal : FnScope ["machine", "table", "rules", "here", "found", "some", "many"] ["machine", "table"] (defScope s_normal) := ⟨rfl, rfl, rfl, by decide +kernel, rfl, by decide +kernel, by decide +kernel⟩
abbrev N_normal : List Str := ["machine", "table", "rules", "here", "found", "some", "many"]
abbrev T_normal (P : Program) (w : World) (K : PySem.W.Frag) (mg : Str → Option Value) (base : Heap) : Prop := CalF P w K mg base "normal" 10 ["machine", "table"] (spR (α := Mach × Nat × Hist) (fun a => [eM a.1, eTg a.1 a.2.1 a.2.2]) (fun a => VM a.1 ∧ VHd a.2.1 ∧ VH a.2.1 a.1.ds.length a.2.2) (fun a d => ∃ g, d = eH g ∧ VH a.2.1 a.1.ds.length g ∧ g.length = a.2.2.length))
section
variable {P : Program} {w : World} {K : PySem.W.Frag} {mg : Str → Option Value} {base : Heap}
theorem c_normal (B : Blt mg) (G : Gls mg) (D : DefAt K mg "normal" s_normal) (C_check_machine : T_check_machine P w K mg base) (C_check_table : T_check_table P w K mg base) (C_lasts : T_lasts P w K mg base) (C_with_back : T_with_back P w K mg base)  : T_normal P w K mg base := by
  obtain ⟨f, fd, h1, F⟩ := D.ex
  refine ⟨f, fd, h1, F.kp, F.bindsN fun _ _ _ _ _ _ us hl => match us, hl with | [_, _], _ => rfl, ?_⟩
  refine fn_R F sc_normal (fun _ => rfl) (fun a => [.arg (eM a.1), .arg (eTg a.1 a.2.1 a.2.2)]) (fun _ _ => as_ok ⟨aA, aA, trivial⟩) fun ⟨m, h, g⟩ hp cdv A outer s H E hr => ?_
  try dsimp only at hp
  have c := ctx_of (P := P) (w := w) (K := K) (base := base) (f := f) (cdv := cdv) (outer := outer) (H := H) (E := E) B sc_normal.nd hr
  obtain ⟨hm, hh, hg⟩ : VM m ∧ VHd h ∧ VH h m.ds.length g := hp
  have b8 := hm.b8
  refine run_cons (run_set 2 (.dat (eM m)) c ⟨imm_M m, ev_call C_check_machine hr (false, m) hm (eds_one (ev_var 0 rfl rfl))⟩ ?_)
  refine run_cons (run_par 3 4 (.dat (eTg m h g)) (.lst []) c ⟨imm_T _ _, ev_call C_check_table hr (m, counts h g, tab m g) ⟨hm, tab_ok hm hh hg⟩ (eds_cons (ev_var 2 rfl rfl) (eds_one (ev_var 1 rfl rfl)))⟩ ⟨rfl, ev_lst eds_nil⟩ (by decide) ?_)
  refine run_cons (run_while (fun k Si => ∃ (g' fl : Hist) (s5 : Sl), k = g'.length ∧ VH h m.ds.length g' ∧ (∀ l ∈ fl, l.1 < h ∧ l.2 < m.ds.length) ∧ fl.length + g'.length = g.length ∧ Si = [.arg (eM m), .arg (eTg m h g), .dat (eM m), .dat (eTg m h g'), .lst (fl.map eL), s5, .any]) (m0 := g.length) ⟨g, [], .any, rfl, hg, fun _ z => by simp at z, by simp, rfl⟩ ?_)
  rintro k Si ⟨g', fl, s5, rfl, hg', hfl, hlen, rfl⟩
  have cs1 := CsOk.counts hh hg'.1
  refine ⟨((counts h g').map fun k => decide (0 < k)).any id, et_val (ev_cb (ca_any c (bs := (counts h g').map fun k => decide (0 < k))) c.any boot_any (eds_one (EvN.toD (ev_lca c [("many", 6)] rfl (counts h g') (fun x => .one (.dat (eN x))) [6] (fun x => [_, _, _, _, _, _, .dat (eN x)]) (fun x => .bool (decide (0 < x))) (it_tup (ev_ixT (i := 0) (ev_var 3 rfl rfl) ev_int rfl) (imms_N _)) (dats_map _ _) ?_ (by rw [counts_len]; have := hh.2; omega) (by decide) (fun x hx s H C cl fp => g_name 6 c.nd) fun x hx => ⟨rfl, fun s H C cl fp => EvD.is (ev_cmp od_gt (ev_var 6 rfl rfl) ev_int) (congrArg PyData.bool (ltN 0 x))⟩)))), fun ht => ?_, fun hf => ?_⟩
  · rw [List.map_map]
    rfl
  · have hne := (counts_pos hg').mp ht
    have hL := lasts_some hg' hne
    have hmem := fun l => lasts_mem (m := m) (cs := counts h g') (b := tab m g') (l := l)
    have hlt := lastsOf_len m (counts h g') (tab m g') (en (counts h g'))
    refine run_cons (run_set 5 (.dat (eH (lastsOf m (counts h g') (tab m g') (en (counts h g'))))) c ⟨imm_H _, ev_call C_lasts hr (m, counts h g', tab m g') ⟨hm, tab_ok hm hh hg'⟩ (eds_cons (ev_var 2 rfl rfl) (eds_one (ev_var 3 rfl rfl)))⟩ ?_)
    generalize lastsOf m (counts h g') (tab m g') (en (counts h g')) = L at hL hmem ⊢
    rcases List.eq_nil_or_concat L with rfl | ⟨L', l, e⟩
    · exact absurd rfl hL
    rw [List.concat_eq_append] at e
    subst e
    obtain ⟨hz, h1z, hd⟩ := hmem l (by simp)
    have hz' : l.1 < h := by rw [counts_len] at hz; exact hz
    rw [counts_at hz'] at h1z
    obtain ⟨p, d0, q, epq, hq⟩ := split_last (z := l.1) (g := g') (by omega)
    refine run_cons (run_if (k := false) (EvT.is (et_cmp (od_eqi c) (ev_cb ca_lenT c.len boot_len (eds_one (ev_var 5 rfl rfl))) ev_int) (by rw [List.length_map]; simp; omega)) (fun z => nomatch z) fun _ => run_nil ?_)
    have el : atI ((L' ++ [l]).map eL) (-1) = some (eL l) := by rw [List.map_append]; exact atI_last
    refine run_cons (run_append 4 rfl (ev_ixT (i := -1) (ev_var 5 rfl rfl) (ev_neg ev_int) el) (imm_L l) (by rw [List.length_map]; have := hg.1; omega) ?_)
    refine run_one (run_set 3 (.dat (eTg m h (p ++ q))) c ⟨imm_T _ _, ev_call C_with_back hr (counts h g', tab m g', l.1) ⟨(tab_ok hm hh hg').mono b8, hz, by rw [counts_at hz']; exact h1z⟩ (eds_cons (ev_var 3 rfl rfl) (eds_one (ev_ixT (i := 0) (ev_ixT (i := -1) (ev_var 5 rfl rfl) (ev_neg ev_int) el) ev_int rfl))) (hd := by subst epq; exact eTg_back hz' hq)⟩ ?_)
    have hlpq : g'.length = (p ++ q).length + 1 := by rw [epq]; simp; omega
    refine ⟨(p ++ q).length, by omega, p ++ q, fl ++ [l], _, rfl, ?_, ?_, ?_, by rw [List.map_append]; rfl⟩
    · rw [epq] at hg'
      exact hg'.back
    · intro x hx
      rcases List.mem_append.mp hx with w | w
      · exact hfl x w
      · cases List.mem_singleton.mp w
        exact ⟨hz', hd⟩
    · rw [List.length_append]
      show fl.length + 1 + _ = _
      omega
  · have e0 : g' = [] := Classical.byContradiction fun hne => by
      rw [(counts_pos hg').mpr hne] at hf
      cases hf
    subst e0
    refine run_cons (run_if (k := false) (EvT.is (et_cmp (od_nei c) (ev_ixT (i := 0) (ds := [eN m.s]) (ev_ixT (i := 1) (EvD.is (ev_var 3 rfl rfl) (first_board hh)) ev_int rfl) ev_int rfl) (ev_ixT (i := 0) (ev_var 2 rfl rfl) ev_int rfl)) (by simp)) (fun z => nomatch z) fun _ => run_nil ?_)
    refine run_one (run_ret (ev_ct ca_tupL c.tuple boot_tuple (eds_one (EvN.toD (ev_rev (ev_var 4 rfl rfl))))) ⟨fl.reverse, by unfold eH; rw [List.map_reverse], ⟨by rw [List.length_reverse]; have := hg.1; simp at hlen; omega, fun l hl => hfl l (List.mem_reverse.mp hl)⟩, by rw [List.length_reverse]; simpa using hlen⟩)
end
end Ow
end

section
set_option linter.all false
set_option autoImplicit false
/-! Parting, plain. -/
namespace Ow
open PySem L2 OwL Om
def unl (cs : List Nat) (b b' : List Nat → Nat) : List (List Nat) := (vecs cs).filter fun v => !decide (b v = b' v)
def mxs (l : List (List Nat)) : Nat := l.foldr (fun v a => max v.sum a) 0
def near (l : List (List Nat)) : List (List Nat) := l.filter fun v => decide (v.sum = mxs l)
theorem mxs_le : ∀ (l : List (List Nat)) (v : List Nat), v ∈ l → v.sum ≤ mxs l
  | w :: l, v, h => by
    show v.sum ≤ max w.sum (mxs l)
    rcases List.mem_cons.mp h with rfl | h
    · omega
    · have := mxs_le l v h
      omega
theorem mxs_mem : ∀ l : List (List Nat), mxs l = 0 ∨ ∃ v ∈ l, v.sum = mxs l
  | [] => .inl rfl
  | w :: l => by
    have e : mxs (w :: l) = max w.sum (mxs l) := rfl
    rcases Nat.le_total w.sum (mxs l) with h | h
    · rw [e, Nat.max_eq_right h]
      rcases mxs_mem l with k | ⟨v, hv, k⟩
      · exact .inl k
      · exact .inr ⟨v, List.mem_cons_of_mem _ hv, k⟩
    · rw [e, Nat.max_eq_left h]
      exact .inr ⟨w, List.mem_cons_self, rfl⟩
theorem near_ne {l : List (List Nat)} (h : l ≠ []) : near l ≠ [] := by
  cases l with
  | nil => exact absurd rfl h
  | cons w l =>
    intro hn
    rcases mxs_mem (w :: l) with k | ⟨v, hv, k⟩
    · have h1 := mxs_le (w :: l) w List.mem_cons_self
      have : w ∈ near (w :: l) := List.mem_filter.mpr ⟨List.mem_cons_self, decide_eq_true (by omega)⟩
      rw [hn] at this
      cases this
    · have : v ∈ near (w :: l) := List.mem_filter.mpr ⟨hv, decide_eq_true k⟩
      rw [hn] at this
      cases this
def btOf (v : List Nat) (u : List (Nat × Nat)) : List Nat := u.flatMap fun x => List.replicate (x.2 - At v x.1) x.1
def backsTo (cs v : List Nat) : List Nat := btOf v (en cs)
theorem btOf_snoc (v : List Nat) (u : List (Nat × Nat)) (x : Nat × Nat) : btOf v (u ++ [x]) = btOf v u ++ List.replicate (x.2 - At v x.1) x.1 := by
  unfold btOf
  rw [List.flatMap_append, List.flatMap_cons, List.flatMap_nil, List.append_nil]
theorem btOf_len (v : List Nat) : ∀ u : List (Nat × Nat), (btOf v u).length ≤ (u.map (·.2)).sum
  | [] => Nat.le_refl _
  | x :: u => by
    have := btOf_len v u
    unfold btOf at this ⊢
    rw [List.flatMap_cons, List.length_append, List.length_replicate, List.map_cons, List.sum_cons]
    omega
theorem en_snd (cs : List Nat) : (en cs).map (·.2) = cs := by
  apply List.ext_getElem?
  intro i
  unfold en
  rw [List.getElem?_map, List.getElem?_mapIdx]
  cases cs[i]? <;> rfl
end Ow
end

section
set_option linter.all false
set_option maxRecDepth 100000
set_option maxHeartbeats 4000000
set_option autoImplicit false
/-! Defs: renewed, nearest. -/
namespace Ow
open PySem L2 OwL Om
open PyProof.Rows (envOfC)

def eBk (z : Nat) : PyData := .tuple [.str "back", eN z]
theorem imm_Bk (z : Nat) : imm (eBk z) = true := rfl
theorem zip_maps {α β γ : Type} (f : α → β) (g : α → γ) : ∀ l : List α, (l.map f).zip (l.map g) = l.map fun a => (f a, g a)
  | [] => rfl
  | a :: l => by
    rw [List.map_cons, List.map_cons, List.zip_cons_cons, zip_maps f g l, List.map_cons]
theorem zip3_V (l : List (List Nat)) (b b' : List Nat → Nat) : zip3 (l.map eNs) (l.map fun v => eN (b v)) (l.map fun v => eN (b' v)) = l.map fun v => .tup [.dat (eNs v), .dat (eN (b v)), .dat (eN (b' v))] := by
  unfold zip3
  rw [zip_maps, zip_maps, List.map_map]
  rfl
def castI (v : List Nat) : List Int := v.map fun (n : Nat) => (n : Int)
theorem eNs_I (v : List Nat) : eNs v = .tuple ((castI v).map .int) := by
  unfold eNs castI
  rw [List.map_map]
  rfl
theorem castI_sum : ∀ v : List Nat, (castI v).sum = ((v.sum : Nat) : Int)
  | [] => rfl
  | n :: v => by
    show (((n : Int)) :: castI v).sum = _
    rw [List.sum_cons, List.sum_cons, castI_sum v]
    omega
section
variable {X : Cx} {S : List Sl} {e : Expr} {pos p : Pos}
theorem ev_sum (c : Ctx X) {v : List Nat} (h : EvD X e S (eNs v)) (hg : Gl X "sum" := by rfl) (he : starEach [e] X.env = (false, eval e X.env) :: starEach [] X.env := by rfl) (hpl : (backTo pos (starEach [] X.env)).any (·.1) = false := by rfl) : EvD X (.Call (.Name "sum" p) [e] [] pos) S (eN v.sum) :=
  EvD.is (ev_cb (ca_sumT c (ns := castI v)) c.sum boot_sum (eds_one (EvD.is h (eNs_I v)) he) hg (by decide) (by decide) he hpl) (congrArg PyData.int (castI_sum v))
end
theorem eTg_eqv (m : Mach) (h : Nat) (g g' : Hist) (hc : counts h g = counts h g') : PyData.eqv (eTg m h g) (eTg m h g') = decide ((vecs (counts h g)).map (tab m g) = (vecs (counts h g')).map (tab m g')) := by
  unfold eTg
  rw [eqv_T]
  exact decide_eq_decide.mpr ⟨fun k => k.2, fun k => ⟨hc, k⟩⟩
/-- one table -/
def same (m : Mach) (h : Nat) (g g' : Hist) : Bool := decide ((vecs (counts h g)).map (tab m g) = (vecs (counts h g')).map (tab m g'))
/-- what is told apart -/
def parts (m : Mach) (h : Nat) (g g' : Hist) : List Nat := match near (unl (counts h g) (tab m g) (tab m g')) with
  | [] => []
  | v :: _ => backsTo (counts h g) v
def partR (m : Mach) (h : Nat) (g g' : Hist) : PyData := if same m h g g' = true then .none else .tuple ((parts m h g g').map eBk)


abbrev s_normal_of : Stmt := top 66
theorem sc_normal_of : FnScope ["machine", "hands", "history", "rules"] ["machine", "hands", "history"] (defScope s_normal_of) := ⟨rfl, rfl, rfl, by decide +kernel, rfl, by decide +kernel, by decide +kernel⟩
abbrev N_normal_of : List Str := ["machine", "hands", "history", "rules"]
abbrev T_normal_of (P : Program) (w : World) (K : PySem.W.Frag) (mg : Str → Option Value) (base : Heap) : Prop := CalF P w K mg base "normal_of" 11 ["machine", "hands", "history"] (spR (α := Mach × Nat × Hist) (fun a => [eM a.1, eN a.2.1, eH a.2.2]) (fun a => VM a.1 ∧ VHd a.2.1 ∧ VH a.2.1 a.1.ds.length a.2.2) (fun a d => ∃ g, d = eH g ∧ VH a.2.1 a.1.ds.length g ∧ g.length = a.2.2.length))
section
variable {P : Program} {w : World} {K : PySem.W.Frag} {mg : Str → Option Value} {base : Heap}
theorem c_normal_of (B : Blt mg) (G : Gls mg) (D : DefAt K mg "normal_of" s_normal_of) (C_check_machine : T_check_machine P w K mg base) (C_normal : T_normal P w K mg base) (C_table_of : T_table_of P w K mg base)  : T_normal_of P w K mg base := by
  obtain ⟨f, fd, h1, F⟩ := D.ex
  refine ⟨f, fd, h1, F.kp, F.bindsN fun _ _ _ _ _ _ us hl => match us, hl with | [_, _, _], _ => rfl, ?_⟩
  refine fn_R F sc_normal_of (fun _ => rfl) (fun a => [.arg (eM a.1), .arg (eN a.2.1), .arg (eH a.2.2)]) (fun _ _ => as_ok ⟨aA, aA, aA, trivial⟩) fun ⟨m, h, g⟩ hp cdv A outer s H E hr => ?_
  try dsimp only at hp
  have c := ctx_of (P := P) (w := w) (K := K) (base := base) (f := f) (cdv := cdv) (outer := outer) (H := H) (E := E) B sc_normal_of.nd hr
  refine run_cons (run_set 3 (.dat (eM m)) c ⟨imm_M m, ev_call C_check_machine hr (false, m) hp.1 (eds_one (ev_var 0 rfl rfl))⟩ ?_)
  exact run_one (run_retR (ev_callR C_normal hr (m, h, g) hp (eds_cons (ev_var 3 rfl rfl) (eds_one (ev_call C_table_of hr (m, h, g) hp (eds_cons (ev_var 3 rfl rfl) (eds_cons (ev_var 1 rfl rfl) (eds_one (ev_var 2 rfl rfl)))))))) fun _ q => q)
end

abbrev s_renewed : Stmt := top 67
theorem sc_renewed : FnScope ["machine", "hands", "history", "press", "rules"] ["machine", "hands", "history", "press"] (defScope s_renewed) := ⟨rfl, rfl, rfl, by decide +kernel, rfl, by decide +kernel, by decide +kernel⟩
abbrev N_renewed : List Str := ["machine", "hands", "history", "press", "rules"]
abbrev T_renewed (P : Program) (w : World) (K : PySem.W.Frag) (mg : Str → Option Value) (base : Heap) : Prop := CalF P w K mg base "renewed" 12 ["machine", "hands", "history", "press"] (spR (α := Mach × Nat × Hist × Nat × Nat) (fun a => [eM a.1, eN a.2.1, eH a.2.2.1, eP a.2.2.2]) (fun a => VM a.1 ∧ VHd a.2.1 ∧ VH a.2.1 a.1.ds.length a.2.2.1 ∧ a.2.2.2.1 < a.2.1 ∧ a.2.2.2.2 < a.1.ds.length ∧ a.2.2.1.length ≤ 9) (fun a d => ∃ g, d = eH g ∧ VH a.2.1 a.1.ds.length g ∧ g.length = a.2.2.1.length + 1))
section
variable {P : Program} {w : World} {K : PySem.W.Frag} {mg : Str → Option Value} {base : Heap}
theorem c_renewed (B : Blt mg) (G : Gls mg) (D : DefAt K mg "renewed" s_renewed) (C_check_machine : T_check_machine P w K mg base) (C_normal_of : T_normal_of P w K mg base) (C_pressed : T_pressed P w K mg base)  : T_renewed P w K mg base := by
  obtain ⟨f, fd, h1, F⟩ := D.ex
  refine ⟨f, fd, h1, F.kp, F.bindsN fun _ _ _ _ _ _ us hl => match us, hl with | [_, _, _, _], _ => rfl, ?_⟩
  refine fn_R F sc_renewed (fun _ => rfl) (fun a => [.arg (eM a.1), .arg (eN a.2.1), .arg (eH a.2.2.1), .arg (eP a.2.2.2)]) (fun _ _ => as_ok ⟨aA, aA, aA, aA, trivial⟩) fun ⟨m, h, g, z, d⟩ hp cdv A outer s H E hr => ?_
  try dsimp only at hp
  have c := ctx_of (P := P) (w := w) (K := K) (base := base) (f := f) (cdv := cdv) (outer := outer) (H := H) (E := E) B sc_renewed.nd hr
  obtain ⟨hm, hh, hg, hz, hd, hl⟩ : VM m ∧ VHd h ∧ VH h m.ds.length g ∧ z < h ∧ d < m.ds.length ∧ g.length ≤ 9 := hp
  have hg2 : VH h m.ds.length (g ++ [(z, d)]) := ⟨by rw [List.length_append]; show g.length + 1 ≤ 10; omega, fun l hl => by
    rcases List.mem_append.mp hl with w | w
    · exact hg.2 l w
    · cases List.mem_singleton.mp w
      exact ⟨hz, hd⟩⟩
  refine run_cons (run_set 4 (.dat (eM m)) c ⟨imm_M m, ev_call C_check_machine hr (false, m) hm (eds_one (ev_var 0 rfl rfl))⟩ ?_)
  exact run_one (run_retR (R := fun y => ∃ k, y = eH k ∧ VH h m.ds.length k ∧ k.length = (g ++ [(z, d)]).length) (ev_callR C_normal_of hr (m, h, g ++ [(z, d)]) ⟨hm, hh, hg2⟩ (eds_cons (ev_var 4 rfl rfl) (eds_cons (ev_var 1 rfl rfl) (eds_one (ev_call C_pressed hr (m, h, g, z, d) ⟨hm, hh, hg, hz, hd⟩ (eds_cons (ev_var 4 rfl rfl) (eds_cons (ev_var 1 rfl rfl) (eds_cons (ev_var 2 rfl rfl) (eds_one (ev_var 3 rfl rfl)))))))))) fun d ⟨k, q1, q2, q3⟩ => ⟨k, q1, q2, by rw [q3]; exact List.length_append⟩)
end

abbrev s_two_tables : Stmt := top 70
theorem sc_two_tables : FnScope ["machine", "hands", "one", "other", "rules", "first"] ["machine", "hands", "one", "other"] (defScope s_two_tables) := ⟨rfl, rfl, rfl, by decide +kernel, rfl, by decide +kernel, by decide +kernel⟩
abbrev N_two_tables : List Str := ["machine", "hands", "one", "other", "rules", "first"]
abbrev T_two_tables (P : Program) (w : World) (K : PySem.W.Frag) (mg : Str → Option Value) (base : Heap) : Prop := CalF P w K mg base "two_tables" 11 ["machine", "hands", "one", "other"] (spF (α := Mach × Nat × Hist × Hist) (fun a => [eM a.1, eN a.2.1, eH a.2.2.1, eH a.2.2.2]) (fun a => VM a.1 ∧ VHd a.2.1 ∧ VH a.2.1 a.1.ds.length a.2.2.1 ∧ VH a.2.1 a.1.ds.length a.2.2.2) (fun a => .tuple [eTg a.1 a.2.1 a.2.2.1, eTg a.1 a.2.1 a.2.2.2]))
section
variable {P : Program} {w : World} {K : PySem.W.Frag} {mg : Str → Option Value} {base : Heap}
theorem c_two_tables (B : Blt mg) (G : Gls mg) (D : DefAt K mg "two_tables" s_two_tables) (C_check_machine : T_check_machine P w K mg base) (C_table_of : T_table_of P w K mg base)  : T_two_tables P w K mg base := by
  obtain ⟨f, fd, h1, F⟩ := D.ex
  refine ⟨f, fd, h1, F.kp, F.bindsN fun _ _ _ _ _ _ us hl => match us, hl with | [_, _, _, _], _ => rfl, ?_⟩
  refine fn_D F sc_two_tables (fun _ => rfl) (fun a => [.arg (eM a.1), .arg (eN a.2.1), .arg (eH a.2.2.1), .arg (eH a.2.2.2)]) (fun _ _ => as_ok ⟨aA, aA, aA, aA, trivial⟩) fun ⟨m, h, g, g2⟩ hp cdv A outer s H E hr => ?_
  try dsimp only at hp
  have c := ctx_of (P := P) (w := w) (K := K) (base := base) (f := f) (cdv := cdv) (outer := outer) (H := H) (E := E) B sc_two_tables.nd hr
  obtain ⟨hm, hh, hg, hg2⟩ : VM m ∧ VHd h ∧ VH h m.ds.length g ∧ VH h m.ds.length g2 := hp
  refine run_cons (run_set 4 (.dat (eM m)) c ⟨imm_M m, ev_call C_check_machine hr (false, m) hm (eds_one (ev_var 0 rfl rfl))⟩ ?_)
  refine run_cons (run_set 5 (.dat (eTg m h g)) c ⟨imm_T _ _, ev_call C_table_of hr (m, h, g) ⟨hm, hh, hg⟩ (eds_cons (ev_var 4 rfl rfl) (eds_cons (ev_var 1 rfl rfl) (eds_one (ev_var 2 rfl rfl))))⟩ ?_)
  exact run_one (run_ret (ev_tup (eds_cons (ev_var 5 rfl rfl) (eds_one (ev_call C_table_of hr (m, h, g2) ⟨hm, hh, hg2⟩ (eds_cons (ev_var 4 rfl rfl) (eds_cons (ev_var 1 rfl rfl) (eds_one (ev_var 3 rfl rfl)))))))) rfl)
end

abbrev s_unlike_entries : Stmt := top 71
theorem sc_unlike_entries : FnScope ["first", "second", "vector", "one", "other"] ["first", "second"] (defScope s_unlike_entries) := ⟨rfl, rfl, rfl, by decide +kernel, rfl, by decide +kernel, by decide +kernel⟩
abbrev N_unlike_entries : List Str := ["first", "second", "vector", "one", "other"]
abbrev T_unlike_entries (P : Program) (w : World) (K : PySem.W.Frag) (mg : Str → Option Value) (base : Heap) : Prop := CalF P w K mg base "unlike_entries" 6 ["first", "second"] (spN (α := List Nat × (List Nat → Nat) × (List Nat → Nat)) (fun a => [eT a.1 a.2.1, eT a.1 a.2.2]) (fun a => CsOk a.1) (fun a => (unl a.1 a.2.1 a.2.2).map eNs))
section
variable {P : Program} {w : World} {K : PySem.W.Frag} {mg : Str → Option Value} {base : Heap}
theorem c_unlike_entries (B : Blt mg) (G : Gls mg) (D : DefAt K mg "unlike_entries" s_unlike_entries) (C_vectors : T_vectors P w K mg base)  : T_unlike_entries P w K mg base := by
  obtain ⟨f, fd, h1, F⟩ := D.ex
  refine ⟨f, fd, h1, F.kp, F.bindsN fun _ _ _ _ _ _ us hl => match us, hl with | [_, _], _ => rfl, ?_⟩
  refine fn_N F sc_unlike_entries (fun _ => rfl) (fun a => [.arg (eT a.1 a.2.1), .arg (eT a.1 a.2.2)]) (fun _ _ => as_ok ⟨aA, aA, trivial⟩) fun ⟨cs, b, b2⟩ hp cdv A outer s H E hr => ?_
  try dsimp only at hp
  have c := ctx_of (P := P) (w := w) (K := K) (base := base) (f := f) (cdv := cdv) (outer := outer) (H := H) (E := E) B sc_unlike_entries.nd hr
  have h1024 := vecs_1024 hp.sum
  exact run_one (run_retN (ev_lci c [("vector", 2), ("one", 3), ("other", 4)] rfl (vecs cs) (fun v => .tup [.dat (eNs v), .dat (eN (b v)), .dat (eN (b2 v))]) [2, 3, 4] (fun v => [_, _, .dat (eNs v), .dat (eN (b v)), .dat (eN (b2 v))]) (fun v => !decide (b v = b2 v)) eNs (it_zip3 c (ev_call C_vectors hr cs hp (eds_one (ev_ixT (i := 0) (ev_var 0 rfl rfl) ev_int rfl))) (ev_ixT (i := 1) (ev_var 0 rfl rfl) ev_int rfl) (ev_ixT (i := 1) (ev_var 1 rfl rfl) ev_int rfl) (by rw [List.length_map, List.length_map]) (by rw [List.length_map, List.length_map]) (imms_map fun x _ => imm_Ns x) (imms_B _ _) (imms_B _ _)) (zip3_V _ _ _) rfl (by omega) (by decide) (fun x hx s H C cl fp => g_tup3 2 3 4 c.blk) (fun x hx s H C cl fp => ets_one (EvT.is (et_cmp (od_nei c.blk) (ev_var 3 rfl rfl) (ev_var 4 rfl rfl)) (congrArg (!·) (eqN _ _)))) fun x hx _ => ⟨imm_Ns x, fun s H C cl fp => ev_var 2 rfl rfl⟩) rfl)
end

abbrev s_nearest : Stmt := top 72
theorem sc_nearest : FnScope ["machine", "hands", "one", "other", "first", "second", "some", "most", "vector"] ["machine", "hands", "one", "other"] (defScope s_nearest) := ⟨rfl, rfl, rfl, by decide +kernel, rfl, by decide +kernel, by decide +kernel⟩
abbrev N_nearest : List Str := ["machine", "hands", "one", "other", "first", "second", "some", "most", "vector"]
abbrev T_nearest (P : Program) (w : World) (K : PySem.W.Frag) (mg : Str → Option Value) (base : Heap) : Prop := CalF P w K mg base "nearest" 12 ["machine", "hands", "one", "other"] (spF (α := Mach × Nat × Hist × Hist) (fun a => [eM a.1, eN a.2.1, eH a.2.2.1, eH a.2.2.2]) (fun a => VM a.1 ∧ VHd a.2.1 ∧ VH a.2.1 a.1.ds.length a.2.2.1 ∧ VH a.2.1 a.1.ds.length a.2.2.2 ∧ counts a.2.1 a.2.2.1 = counts a.2.1 a.2.2.2) (fun a => .tuple ((near (unl (counts a.2.1 a.2.2.1) (tab a.1 a.2.2.1) (tab a.1 a.2.2.2))).map eNs)))
section
variable {P : Program} {w : World} {K : PySem.W.Frag} {mg : Str → Option Value} {base : Heap}
theorem c_nearest (B : Blt mg) (G : Gls mg) (D : DefAt K mg "nearest" s_nearest) (C_two_tables : T_two_tables P w K mg base) (C_unlike_entries : T_unlike_entries P w K mg base)  : T_nearest P w K mg base := by
  obtain ⟨f, fd, h1, F⟩ := D.ex
  refine ⟨f, fd, h1, F.kp, F.bindsN fun _ _ _ _ _ _ us hl => match us, hl with | [_, _, _, _], _ => rfl, ?_⟩
  refine fn_D F sc_nearest (fun _ => rfl) (fun a => [.arg (eM a.1), .arg (eN a.2.1), .arg (eH a.2.2.1), .arg (eH a.2.2.2)]) (fun _ _ => as_ok ⟨aA, aA, aA, aA, trivial⟩) fun ⟨m, h, g, g2⟩ hp cdv A outer s H E hr => ?_
  try dsimp only at hp
  have c := ctx_of (P := P) (w := w) (K := K) (base := base) (f := f) (cdv := cdv) (outer := outer) (H := H) (E := E) B sc_nearest.nd hr
  obtain ⟨hm, hh, hg, hg2, hc⟩ : VM m ∧ VHd h ∧ VH h m.ds.length g ∧ VH h m.ds.length g2 ∧ counts h g = counts h g2 := hp
  have cs1 := CsOk.counts (g := g) hh hg.1
  have h1024 := vecs_1024 cs1.sum
  have hun : ∀ {l : List (List Nat)}, l = unl (counts h g) (tab m g) (tab m g2) → l.length ≤ 1024 := fun e => by
    subst e
    exact Nat.le_trans (List.length_filter_le _ _) h1024
  have e2 : eTg m h g2 = eT (counts h g) (tab m g2) := by unfold eTg; rw [hc]
  refine run_cons (run_asg (itm_tup (ds := [eTg m h g, eTg m h g2]) (imms_cons.mpr ⟨imm_T _ _, imms_cons.mpr ⟨imm_T _ _, rfl⟩⟩) (ev_call C_two_tables hr (m, h, g, g2) ⟨hm, hh, hg, hg2⟩ (eds_cons (ev_var 0 rfl rfl) (eds_cons (ev_var 1 rfl rfl) (eds_cons (ev_var 2 rfl rfl) (eds_one (ev_var 3 rfl rfl))))))) (g_tup2 4 5 c (s := .dat (eTg m h g)) (t := .dat (eTg m h g2))) ?_)
  refine run_cons (run_if (k := false) (EvT.is (et_cmp (od_neB c (shp_Ns (counts h g)) (shp_Ns (counts h g2)) (eqv_Ns _ _)) (ev_ixT (i := 0) (ev_var 4 rfl rfl) ev_int rfl) (ev_ixT (i := 0) (ev_var 5 rfl rfl) ev_int rfl)) (by rw [hc]; simp)) (fun z => nomatch z) fun _ => run_nil ?_)
  refine run_cons (run_set 6 (.lst ((unl (counts h g) (tab m g) (tab m g2)).map eNs)) c ⟨imms_map fun x _ => imm_Ns x, ev_callN C_unlike_entries hr (counts h g, tab m g, tab m g2) cs1 (eds_cons (ev_var 4 rfl rfl) (eds_one (EvD.is (ev_var 5 rfl rfl) e2)))⟩ ?_)
  have hl := hun rfl
  generalize unl (counts h g) (tab m g) (tab m g2) = l at hl ⊢
  refine run_cons (run_set 7 (.dat (eN (mxs l))) c ⟨rfl, ev_cb (ca_max c (ns := 0 :: l.map fun v => ((v.sum : Nat) : Int)) (m := ((mxs l : Nat) : Int)) ?_ ?_) c.max boot_max (eds_one (EvD.is (EvN.toD (ev_binN (on_cat (by rw [List.length_map]; show 1 + _ ≤ _; omega)) (EvN.toD (ev_lst (eds_one ev_int))) (EvN.toD (ev_lca c [("vector", 8)] rfl l (fun v => .one (.dat (eNs v))) [8] (fun v => [_, _, _, _, _, _, _, _, .dat (eNs v)]) (fun v => eN v.sum) (it_own 6 rfl) (dats_map _ _) rfl (by omega) (by decide) (fun x hx s H C cl fp => g_name 8 c.nd) fun x hx => ⟨rfl, fun s H C cl fp => ev_sum c.blk (ev_var 8 rfl rfl)⟩)))) (by rw [List.map_cons, List.map_map]; rfl)))⟩ ?_)
  · rcases mxs_mem l with k | ⟨v, hv, k⟩
    · rw [k]
      exact List.mem_cons_self
    · refine List.mem_cons_of_mem _ (List.mem_map.mpr ⟨v, hv, by rw [k]⟩)
  · intro y hy
    rcases List.mem_cons.mp hy with rfl | hy
    · omega
    · obtain ⟨v, hv, rfl⟩ := List.mem_map.mp hy
      have := mxs_le l v hv
      omega
  exact run_one (run_ret (ev_ct ca_tupL c.tuple boot_tuple (eds_one (EvN.toD (ev_lci c [("vector", 8)] rfl l (fun v => .one (.dat (eNs v))) [8] (fun v => [_, _, _, _, _, _, _, .dat (eN (mxs l)), .dat (eNs v)]) (fun v => decide (v.sum = mxs l)) eNs (it_own 6 rfl) (dats_map _ _) rfl (by omega) (by decide) (fun x hx s H C cl fp => g_name 8 c.nd) (fun x hx s H C cl fp => ets_one (EvT.is (et_cmp (od_eqi c.blk) (ev_sum c.blk (ev_var 8 rfl rfl)) (ev_var 7 rfl rfl)) (eqN _ _))) fun x hx _ => ⟨imm_Ns x, fun s H C cl fp => ev_var 8 rfl rfl⟩)))) rfl)
end
end Ow
end

section
set_option linter.all false
set_option maxRecDepth 100000
set_option maxHeartbeats 4000000
set_option autoImplicit false
/-! Defs: parting. -/
namespace Ow
open PySem L2 OwL Om
open PyProof.Rows (envOfC)

theorem rep_flat {α : Type} (a : α) : ∀ n, (List.replicate n [a]).flatten = List.replicate n a
  | 0 => rfl
  | n + 1 => by
    rw [List.replicate_succ, List.flatten_cons, rep_flat a n]
    rfl


abbrev s_backs_to : Stmt := top 73
theorem sc_backs_to : FnScope ["counts", "vector", "found", "hand", "many"] ["counts", "vector"] (defScope s_backs_to) := ⟨rfl, rfl, rfl, by decide +kernel, rfl, by decide +kernel, by decide +kernel⟩
abbrev N_backs_to : List Str := ["counts", "vector", "found", "hand", "many"]
abbrev T_backs_to (P : Program) (w : World) (K : PySem.W.Frag) (mg : Str → Option Value) (base : Heap) : Prop := CalF P w K mg base "backs_to" 1 ["counts", "vector"] (spF (α := List Nat × List Nat) (fun a => [eNs a.1, eNs a.2]) (fun a => CsOk a.1 ∧ Fits a.2 a.1) (fun a => .tuple ((backsTo a.1 a.2).map eBk)))
section
variable {P : Program} {w : World} {K : PySem.W.Frag} {mg : Str → Option Value} {base : Heap}
theorem c_backs_to (B : Blt mg) (G : Gls mg) (D : DefAt K mg "backs_to" s_backs_to)   : T_backs_to P w K mg base := by
  obtain ⟨f, fd, h1, F⟩ := D.ex
  refine ⟨f, fd, h1, F.kp, F.bindsN fun _ _ _ _ _ _ us hl => match us, hl with | [_, _], _ => rfl, ?_⟩
  refine fn_D F sc_backs_to (fun _ => rfl) (fun a => [.arg (eNs a.1), .arg (eNs a.2)]) (fun _ _ => as_ok ⟨aA, aA, trivial⟩) fun ⟨cs, v⟩ hp cdv A outer s H E hr => ?_
  try dsimp only at hp
  have c := ctx_of (P := P) (w := w) (K := K) (base := base) (f := f) (cdv := cdv) (outer := outer) (H := H) (E := E) B sc_backs_to.nd hr
  obtain ⟨hcs, hf⟩ : CsOk cs ∧ Fits v cs := hp
  have h4 := hcs.four
  have hs10 := hcs.sum
  refine run_cons (run_set 2 (.lst []) c ⟨rfl, ev_lst eds_nil⟩ ?_)
  refine run_cons (run_for c (items := (en cs).map fun x => .tup [.dat (eN x.1), .dat (eN x.2)]) (S0 := [.arg (eNs cs), .arg (eNs v), .lst ((btOf v []).map eBk), .any, .any]) (S' := [.arg (eNs cs), .arg (eNs v), .lst ((btOf v (en cs)).map eBk), .any, .any]) (en_N cs ▸ it_enum c (ev_var 0 rfl rfl) (imms_N _)) (fun _ _ _ _ E => E) (for_run (fun x => .tup [.dat (eN x.1), .dat (eN x.2)]) (fun u => [.arg (eNs cs), .arg (eNs v), .lst ((btOf v u).map eBk), .any, .any]) _ fun u x t e => ⟨[3, 4], _, g_tup2 3 4 c, ?_⟩) ?_)
  · have hx : x ∈ en cs := by rw [← e]; simp
    have hxz : x.1 < v.length := by rw [hf.1]; exact (List.getElem?_eq_some_iff.mp (en_get hx)).1
    have hxa := At_of (en_get hx)
    have hle := At_le_sum cs x.1
    have hbl : (btOf v u).length ≤ 10 := by
      have h1 := btOf_len v u
      have h2 : (u.map (·.2)).sum ≤ cs.sum := by
        rw [← en_snd cs, ← e, List.map_append, List.sum_append]
        omega
      omega
    have ed : ∀ k : Nat, (((x.2 : Nat) : Int) - ((k : Nat) : Int)).toNat = x.2 - k := fun k => by omega
    refine run_one (run_extend 2 (es2 := (List.replicate (x.2 - At v x.1) x.1).map eBk) rfl (EvN.is (ev_binN (on_rep (k := ((x.2 : Nat) : Int) - ((At v x.1 : Nat) : Int)) (by have := hf.2 x.1; omega) (by omega) (by rw [ed]; show 1 * _ ≤ _; omega)) (EvN.toD (ev_lst (eds_one (ev_tup (eds_cons (ev_gstr G.back2) (eds_one (ev_var 3 rfl rfl))))))) (ev_bin od_sub (ev_var 4 rfl rfl) (ev_N (ev_var 1 rfl rfl) (ev_var 3 rfl rfl) hxz))) ?_) (imms_map fun z _ => imm_Bk z) (by rw [List.length_map, List.length_map, List.length_replicate]; omega) ⟨[3, 4], ?_⟩)
    · rw [ed, rep_flat, List.map_replicate]
      rfl
    · rw [btOf_snoc, List.map_append]
      rfl
  · exact run_one (run_ret (ev_ct ca_tupL c.tuple boot_tuple (eds_one (ev_var 2 rfl rfl))) rfl)
end

abbrev s_parting : Stmt := top 74
theorem sc_parting : FnScope ["machine", "hands", "one", "other", "first", "second", "some"] ["machine", "hands", "one", "other"] (defScope s_parting) := ⟨rfl, rfl, rfl, by decide +kernel, rfl, by decide +kernel, by decide +kernel⟩
abbrev N_parting : List Str := ["machine", "hands", "one", "other", "first", "second", "some"]
abbrev T_parting (P : Program) (w : World) (K : PySem.W.Frag) (mg : Str → Option Value) (base : Heap) : Prop := CalF P w K mg base "parting" 13 ["machine", "hands", "one", "other"] (spF (α := Mach × Nat × Hist × Hist) (fun a => [eM a.1, eN a.2.1, eH a.2.2.1, eH a.2.2.2]) (fun a => VM a.1 ∧ VHd a.2.1 ∧ VH a.2.1 a.1.ds.length a.2.2.1 ∧ VH a.2.1 a.1.ds.length a.2.2.2 ∧ counts a.2.1 a.2.2.1 = counts a.2.1 a.2.2.2) (fun a => partR a.1 a.2.1 a.2.2.1 a.2.2.2))
section
variable {P : Program} {w : World} {K : PySem.W.Frag} {mg : Str → Option Value} {base : Heap}
theorem c_parting (B : Blt mg) (G : Gls mg) (D : DefAt K mg "parting" s_parting) (C_two_tables : T_two_tables P w K mg base) (C_nearest : T_nearest P w K mg base) (C_backs_to : T_backs_to P w K mg base)  : T_parting P w K mg base := by
  obtain ⟨f, fd, h1, F⟩ := D.ex
  refine ⟨f, fd, h1, F.kp, F.bindsN fun _ _ _ _ _ _ us hl => match us, hl with | [_, _, _, _], _ => rfl, ?_⟩
  refine fn_D F sc_parting (fun _ => rfl) (fun a => [.arg (eM a.1), .arg (eN a.2.1), .arg (eH a.2.2.1), .arg (eH a.2.2.2)]) (fun _ _ => as_ok ⟨aA, aA, aA, aA, trivial⟩) fun ⟨m, h, g, g2⟩ hp cdv A outer s H E hr => ?_
  try dsimp only at hp
  have c := ctx_of (P := P) (w := w) (K := K) (base := base) (f := f) (cdv := cdv) (outer := outer) (H := H) (E := E) B sc_parting.nd hr
  obtain ⟨hm, hh, hg, hg2, hc⟩ : VM m ∧ VHd h ∧ VH h m.ds.length g ∧ VH h m.ds.length g2 ∧ counts h g = counts h g2 := hp
  refine run_cons (run_asg (itm_tup (ds := [eTg m h g, eTg m h g2]) (imms_cons.mpr ⟨imm_T _ _, imms_cons.mpr ⟨imm_T _ _, rfl⟩⟩) (ev_call C_two_tables hr (m, h, g, g2) ⟨hm, hh, hg, hg2⟩ (eds_cons (ev_var 0 rfl rfl) (eds_cons (ev_var 1 rfl rfl) (eds_cons (ev_var 2 rfl rfl) (eds_one (ev_var 3 rfl rfl))))))) (g_tup2 4 5 c (s := .dat (eTg m h g)) (t := .dat (eTg m h g2))) ?_)
  refine run_cons (run_if (k := same m h g g2) (EvT.is (et_cmp (od_eqB c (shp_T _ _) (shp_T _ _) (eTg_eqv m h g g2 hc)) (ev_var 4 rfl rfl) (ev_var 5 rfl rfl)) rfl) (fun q => run_one (run_ret ev_none (by show _ = partR m h g g2; unfold partR; rw [if_pos q]))) fun q => run_nil ?_)
  refine run_cons (run_set 6 (.dat (.tuple ((near (unl (counts h g) (tab m g) (tab m g2))).map eNs))) c ⟨imms_map fun x _ => imm_Ns x, ev_call C_nearest hr (m, h, g, g2) ⟨hm, hh, hg, hg2, hc⟩ (eds_cons (ev_var 0 rfl rfl) (eds_cons (ev_var 1 rfl rfl) (eds_cons (ev_var 2 rfl rfl) (eds_one (ev_var 3 rfl rfl)))))⟩ ?_)
  have hR : partR m h g g2 = .tuple ((parts m h g g2).map eBk) := by unfold partR; rw [if_neg (by rw [q]; exact Bool.false_ne_true)]
  have hP : parts m h g g2 = match near (unl (counts h g) (tab m g) (tab m g2)) with | [] => [] | v :: _ => backsTo (counts h g) v := rfl
  have hN : ∀ v ∈ near (unl (counts h g) (tab m g) (tab m g2)), Fits v (counts h g) := fun v hv => (mem_vecs _ _).mp (List.mem_filter.mp (List.mem_filter.mp hv).1).1
  generalize near (unl (counts h g) (tab m g) (tab m g2)) = L at hP hN ⊢
  refine run_one (run_ret (d := .tuple ((parts m h g g2).map eBk)) (ev_ife (k := decide (0 < L.length)) (EvT.is (et_cmp od_gt (ev_cb ca_lenT c.len boot_len (eds_one (ev_var 6 rfl rfl))) ev_int) (by rw [List.length_map]; exact ltN 0 _)) (fun k => ?_) (fun k => ?_)) hR.symm)
  · cases L with
    | nil => cases k
    | cons v r =>
      rw [hP]
      exact ev_call C_backs_to hr (counts h g, v) ⟨CsOk.counts hh hg.1, hN v List.mem_cons_self⟩ (eds_cons (ev_ixT (i := 0) (ev_var 4 rfl rfl) ev_int rfl) (eds_one (ev_ixT (i := 0) (ev_var 6 rfl rfl) ev_int (atI_map (f := eNs) (i := 0) (l := v :: r) rfl))))
  · cases L with
    | cons v r => simp at k
    | nil =>
      rw [hP]
      exact ev_tup eds_nil
end

abbrev s_two_alike : Stmt := top 78
theorem sc_two_alike : FnScope ["rules", "hands", "one", "other", "told", "goal"] ["rules", "hands", "one", "other"] (defScope s_two_alike) := ⟨rfl, rfl, rfl, by decide +kernel, rfl, by decide +kernel, by decide +kernel⟩
abbrev N_two_alike : List Str := ["rules", "hands", "one", "other", "told", "goal"]
abbrev T_two_alike (P : Program) (w : World) (K : PySem.W.Frag) (mg : Str → Option Value) (base : Heap) : Prop := CalF P w K mg base "two_alike" 11 ["rules", "hands", "one", "other"] (spF (α := Mach × Nat × Hist × Hist) (fun a => [eM a.1, eN a.2.1, eH a.2.2.1, eH a.2.2.2]) (fun a => VM a.1 ∧ VHd a.2.1 ∧ VH a.2.1 a.1.ds.length a.2.2.1 ∧ VH a.2.1 a.1.ds.length a.2.2.2 ∧ counts a.2.1 a.2.2.1 = counts a.2.1 a.2.2.2 ∧ same a.1 a.2.1 a.2.2.1 a.2.2.2 = true) (fun a => .tuple [eH a.2.2.1, eH a.2.2.2]))
section
variable {P : Program} {w : World} {K : PySem.W.Frag} {mg : Str → Option Value} {base : Heap}
theorem c_two_alike (B : Blt mg) (G : Gls mg) (D : DefAt K mg "two_alike" s_two_alike) (C_check_history : T_check_history P w K mg base) (C_table_of : T_table_of P w K mg base)  : T_two_alike P w K mg base := by
  obtain ⟨f, fd, h1, F⟩ := D.ex
  refine ⟨f, fd, h1, F.kp, F.bindsN fun _ _ _ _ _ _ us hl => match us, hl with | [_, _, _, _], _ => rfl, ?_⟩
  refine fn_D F sc_two_alike (fun _ => rfl) (fun a => [.arg (eM a.1), .arg (eN a.2.1), .arg (eH a.2.2.1), .arg (eH a.2.2.2)]) (fun _ _ => as_ok ⟨aA, aA, aA, aA, trivial⟩) fun ⟨m, h, g, g2⟩ hp cdv A outer s H E hr => ?_
  try dsimp only at hp
  have c := ctx_of (P := P) (w := w) (K := K) (base := base) (f := f) (cdv := cdv) (outer := outer) (H := H) (E := E) B sc_two_alike.nd hr
  obtain ⟨hm, hh, hg, hg2, hc, hs⟩ : VM m ∧ VHd h ∧ VH h m.ds.length g ∧ VH h m.ds.length g2 ∧ counts h g = counts h g2 ∧ same m h g g2 = true := hp
  refine run_cons (run_par 4 5 (.dat (eH g)) (.dat (eH g2)) c ⟨imm_H _, ev_call C_check_history hr (m, h, false, g) ⟨hm, hh, hg⟩ (eds_cons (ev_var 0 rfl rfl) (eds_cons (ev_var 1 rfl rfl) (eds_one (ev_var 2 rfl rfl))))⟩ ⟨imm_H _, ev_call C_check_history hr (m, h, false, g2) ⟨hm, hh, hg2⟩ (eds_cons (ev_var 0 rfl rfl) (eds_cons (ev_var 1 rfl rfl) (eds_one (ev_var 3 rfl rfl))))⟩ (by decide) ?_)
  exact run_one (run_ret (ev_ife (k := true) (EvT.is (et_cmp (od_eqB c (shp_T _ _) (shp_T _ _) (eTg_eqv m h g g2 hc)) (ev_call C_table_of hr (m, h, g) ⟨hm, hh, hg⟩ (eds_cons (ev_var 0 rfl rfl) (eds_cons (ev_var 1 rfl rfl) (eds_one (ev_var 4 rfl rfl))))) (ev_call C_table_of hr (m, h, g2) ⟨hm, hh, hg2⟩ (eds_cons (ev_var 0 rfl rfl) (eds_cons (ev_var 1 rfl rfl) (eds_one (ev_var 5 rfl rfl)))))) hs) (fun _ => ev_tup (eds_cons (ev_var 4 rfl rfl) (eds_one (ev_var 5 rfl rfl)))) fun z => nomatch z) rfl)
end
end Ow
end

section
set_option linter.all false
set_option maxRecDepth 100000
set_option maxHeartbeats 4000000
set_option autoImplicit false
/-! Defs: ways. -/
namespace Ow
open PySem L2 OwL Om
open PyProof.Rows (envOfC)

def forTg : Stmt → Expr
  | .For t _ _ _ _ => t
  | _ => .Constant .none 0 ⟨0, 0, 0, 0⟩
def forBd : Stmt → List Stmt
  | .For _ _ b _ _ => b
  | _ => []
def eS : Step → PyData
  | .put a d => .tuple [.str "put", eN a, eN d]
  | .exch a => .tuple [.str "exchange", eN a]
theorem imm_S : ∀ s : Step, imm (eS s) = true
  | .put _ _ => rfl
  | .exch _ => rfl
theorem imms_S (l : List Step) : imms (l.map eS) = true := imms_map fun s _ => imm_S s
def dn : Nat → List Itm
  | 0 => []
  | k + 1 => .one (.dat (eN k)) :: dn k
theorem dn_get : ∀ (k i : Nat), (dn k)[i]? = if i < k then some (.one (.dat (eN (k - 1 - i)))) else none
  | 0, i => by rw [if_neg (by omega)]; rfl
  | k + 1, 0 => by rw [if_pos (by omega)]; rfl
  | k + 1, i + 1 => by
    show (dn k)[i]? = _
    rw [dn_get k i]
    by_cases h : i < k
    · rw [if_pos h, if_pos (by omega), show k + 1 - 1 - (i + 1) = k - 1 - i by omega]
    · rw [if_neg h, if_neg (by omega)]
theorem rngD_dn (k : Nat) : rngD (((k : Nat) : Int) - 1) ((((k : Nat) : Int) - 1) - (-1)).toNat = dn k := by
  apply List.ext_getElem?
  intro i
  unfold rngD
  rw [show ((((k : Nat) : Int) - 1) - (-1)).toNat = k by omega, dn_get, List.getElem?_map]
  by_cases h : i < k
  · rw [List.getElem?_range h, if_pos h]
    exact congrArg some (congrArg Itm.one (congrArg Sl.dat (congrArg PyData.int (by omega))))
  · rw [List.getElem?_eq_none (by rw [List.length_range]; omega), if_neg h]
    rfl
theorem rng_lo (lo n : Nat) : rng ((lo : Nat) : Int) n = (List.range n).map fun i => .one (.dat (eN (lo + i))) := by
  unfold rng
  exact List.map_congr_left fun i _ => congrArg Itm.one (congrArg Sl.dat (congrArg PyData.int (by omega)))
/-- a way told -/
def WayOk (m : Mach) (h : Nat) (g g2 : Hist) (st : List Step) : Prop := Lead m.f m.s h m.ds.length g st g2 ∧ st.length = far g g2
theorem same_alike {m : Mach} {h n : Nat} {g g2 : Hist} (hg : VH h n g) (hg2 : VH h n g2) (hc : counts h g = counts h g2) (hs : same m h g g2 = true) : Alike m.f m.s g g2 := by
  have hcnt : ∀ y, cnt y g = cnt y g2 := fun y => by
    by_cases hy : y < h
    · rw [← counts_at hy, ← counts_at hy, hc]
    · rw [cnt_zero (fun l hl => (hg.2 l hl).1) (by omega), cnt_zero (fun l hl => (hg2.2 l hl).1) (by omega)]
  refine alike_of m.f m.s hcnt fun n hn => ?_
  have hs := of_decide_eq_true hs
  have hv : ((List.range h).map n) ∈ vecs (counts h g) := (mem_vecs _ _).mpr (fits_of (by simp) fun y hy => by
    rw [At_of (x := n y) (by rw [List.getElem?_map, List.getElem?_range hy]; rfl)]
    exact hn y)
  have e : ∀ (k : Hist), VH h m.ds.length k ∨ (∀ l ∈ k, l.1 < h) → Bd m.f k n m.s = tab m k ((List.range h).map n) := fun k hk => by
    unfold tab
    have hk' : ∀ l ∈ k, l.1 < h := hk.elim (fun w l hl => (w.2 l hl).1) id
    exact Bd_h hk' (fun y hy => (At_of (by rw [List.getElem?_map, List.getElem?_range hy]; rfl)).symm) m.s
  rw [e g (.inr fun l hl => (hg.2 l hl).1), e g2 (.inr fun l hl => (hg2.2 l hl).1)]
  rw [← hc] at hs
  obtain ⟨i, hi⟩ := List.mem_iff_getElem?.mp hv
  have k1 : ((vecs (counts h g)).map (tab m g))[i]? = some (tab m g ((List.range h).map n)) := by rw [List.getElem?_map, hi]; rfl
  have k2 : ((vecs (counts h g)).map (tab m g2))[i]? = some (tab m g2 ((List.range h).map n)) := by rw [List.getElem?_map, hi]; rfl
  rw [hs, k2] at k1
  exact (Option.some.inj k1).symm
theorem far_nil : far [] [] = 0 := rfl
theorem cnt_pos_mem {z : Nat} {g : Hist} {l : Nat × Nat} (h : l ∈ g) (e : l.1 = z) : 0 < cnt z g := by
  obtain ⟨a, b, rfl⟩ := List.append_of_mem h
  rw [cnt_app, cnt_cons, if_pos e]
  omega
theorem hand_at {p q t : Hist} {z d0 : Nat} (hq : cnt z q = 0) {i : Nat} (hi : i < (p ++ (z, d0) :: q).length) : ∃ l, ((p ++ (z, d0) :: q) ++ t)[i]? = some l ∧ (l.1 = z → i ≤ p.length) := by
  refine ⟨(p ++ (z, d0) :: q)[i], by rw [List.getElem?_append_left hi, List.getElem?_eq_getElem hi], fun e => ?_⟩
  by_cases hp : i ≤ p.length
  · exact hp
  · have hm : (p ++ (z, d0) :: q)[i] ∈ q := by
      have : (p ++ (z, d0) :: q)[i]? = q[i - p.length - 1]? := by
        rw [List.getElem?_append_right (by omega)]
        obtain ⟨j, hj⟩ : ∃ j, i - p.length = j + 1 := ⟨i - p.length - 1, by omega⟩
        rw [hj]
        rfl
      rw [List.getElem?_eq_getElem hi] at this
      exact List.mem_of_getElem? this.symm
    have := cnt_pos_mem hm e
    omega
theorem moved {p q t : Hist} {a l : Nat × Nat} : ((((p ++ a :: q) ++ t).map eL).take p.length ++ (((((p ++ a :: q) ++ t).map eL).take (p.length + q.length + 1)).drop (p.length + 1)) ++ [eL l]) ++ (((p ++ a :: q) ++ t).map eL).drop (p.length + q.length + 1) = ((p ++ q ++ [l]) ++ t).map eL := by
  have e1 : ((p ++ a :: q) ++ t).take p.length = p := by simp
  have e2 : (((p ++ a :: q) ++ t).take (p.length + q.length + 1)).drop (p.length + 1) = q := by
    rw [show p.length + q.length + 1 = (p ++ a :: q).length by simp; omega, List.take_left, show p.length + 1 = (p ++ [a]).length by simp, show p ++ a :: q = (p ++ [a]) ++ q by simp, List.drop_left]
  have e3 : ((p ++ a :: q) ++ t).drop (p.length + q.length + 1) = t := by
    rw [show p.length + q.length + 1 = (p ++ a :: q).length by simp; omega, List.drop_left]
  rw [← List.map_take, ← List.map_take, ← List.map_drop, ← List.map_drop, e1, e2, e3]
  simp


abbrev s_some_way : Stmt := top 79
theorem sc_some_way : FnScope ["machine", "hands", "one", "other", "two", "here", "found", "end", "letter", "at", "place"] ["machine", "hands", "one", "other"] (defScope s_some_way) := ⟨rfl, rfl, rfl, by decide +kernel, rfl, by decide +kernel, by decide +kernel⟩
abbrev N_some_way : List Str := ["machine", "hands", "one", "other", "two", "here", "found", "end", "letter", "at", "place"]
abbrev T_some_way (P : Program) (w : World) (K : PySem.W.Frag) (mg : Str → Option Value) (base : Heap) : Prop := CalF P w K mg base "some_way" 12 ["machine", "hands", "one", "other"] (spR (α := Mach × Nat × Hist × Hist) (fun a => [eM a.1, eN a.2.1, eH a.2.2.1, eH a.2.2.2]) (fun a => VM a.1 ∧ VHd a.2.1 ∧ VH a.2.1 a.1.ds.length a.2.2.1 ∧ VH a.2.1 a.1.ds.length a.2.2.2 ∧ counts a.2.1 a.2.2.1 = counts a.2.1 a.2.2.2 ∧ same a.1 a.2.1 a.2.2.1 a.2.2.2 = true) (fun a d => ∃ st, d = .tuple (st.map eS) ∧ WayOk a.1 a.2.1 a.2.2.1 a.2.2.2 st))
section
variable {P : Program} {w : World} {K : PySem.W.Frag} {mg : Str → Option Value} {base : Heap}
theorem c_some_way (B : Blt mg) (G : Gls mg) (D : DefAt K mg "some_way" s_some_way) (C_two_alike : T_two_alike P w K mg base) (C_check_machine : T_check_machine P w K mg base)  : T_some_way P w K mg base := by
  obtain ⟨f, fd, h1, F⟩ := D.ex
  refine ⟨f, fd, h1, F.kp, F.bindsN fun _ _ _ _ _ _ us hl => match us, hl with | [_, _, _, _], _ => rfl, ?_⟩
  refine fn_R F sc_some_way (fun _ => rfl) (fun a => [.arg (eM a.1), .arg (eN a.2.1), .arg (eH a.2.2.1), .arg (eH a.2.2.2)]) (fun _ _ => as_ok ⟨aA, aA, aA, aA, trivial⟩) fun ⟨m, h, g, g2⟩ hp cdv A outer s H E hr => ?_
  try dsimp only at hp
  have c := ctx_of (P := P) (w := w) (K := K) (base := base) (f := f) (cdv := cdv) (outer := outer) (H := H) (E := E) B sc_some_way.nd hr
  obtain ⟨hm, hh, hg, hg2, hc, hs⟩ : VM m ∧ VHd h ∧ VH h m.ds.length g ∧ VH h m.ds.length g2 ∧ counts h g = counts h g2 ∧ same m h g g2 = true := hp
  have hA := same_alike hg hg2 hc hs
  have hlen : ∀ {x u : Hist}, (∀ y, cnt y x = cnt y u) → VH h m.ds.length x → VH h m.ds.length u → x.length = u.length := fun {x u} hcx hx hu => by
    have e : counts h x = counts h u := List.map_congr_left fun z _ => hcx z
    rw [← sum_len (k := x) fun l hl => (hx.2 l hl).1, ← sum_len (k := u) fun l hl => (hu.2 l hl).1, e]
  refine run_cons (run_set 4 (.dat (.tuple [eH g, eH g2])) c ⟨imms_cons.mpr ⟨imm_H _, imms_cons.mpr ⟨imm_H _, rfl⟩⟩, ev_call C_two_alike hr (m, h, g, g2) ⟨hm, hh, hg, hg2, hc, hs⟩ (eds_cons (ev_call C_check_machine hr (false, m) hm (eds_one (ev_var 0 rfl rfl))) (eds_cons (ev_var 1 rfl rfl) (eds_cons (ev_var 2 rfl rfl) (eds_one (ev_var 3 rfl rfl)))))⟩ ?_)
  refine run_cons (run_if (k := false) (et_cmp od_is (ev_var 4 rfl rfl) ev_none) (fun z => nomatch z) fun _ => run_nil ?_)
  refine run_cons (run_parG 5 6 (.lst (g.map eL)) (.lst []) c ⟨imms_L g, ev_ctN ca_lstT c.list boot_list (eds_one (ev_ixT (i := 0) (ev_var 4 rfl rfl) ev_int rfl))⟩ ⟨rfl, ev_lst eds_nil⟩ (by decide) ?_)
  have main : ∀ (u x t : Hist) (fd : List Step) (Pp : Pst) , g2 = u ++ t → VH h m.ds.length (x ++ t) → Alike m.f m.s x u → fd.length ≤ 20 * (10 - u.length) → ∃ st, Lead m.f m.s h m.ds.length (x ++ t) st g2 ∧ st.length = far x u ∧
      ForD (bX P w K mg base N_some_way "some_way" (defScope s_some_way) f cdv A outer s H E) (forTg (nth (defBody s_some_way) 3)) (forBd (nth (defBody s_some_way) 3)) Pp (dn u.length) [.arg (eM m), .arg (eN h), .arg (eH g), .arg (eH g2), .dat (.tuple [eH g, eH g2]), .lst ((x ++ t).map eL), .lst (fd.map eS), .any, .any, .any, .any] [.arg (eM m), .arg (eN h), .arg (eH g), .arg (eH g2), .dat (.tuple [eH g, eH g2]), .lst (g2.map eL), .lst ((fd ++ st).map eS), .any, .any, .any, .any] := ?main
  · obtain ⟨st, h1, h2, h3⟩ := main g2 g [] [] _ (List.append_nil _).symm (by rw [List.append_nil]; exact hg) hA (Nat.zero_le _)
    rw [List.append_nil] at h1 h3
    have hgl : g.length = g2.length := hlen hA.1 hg hg2
    refine run_cons (run_for c (it_rangeD (i := ((g.length : Nat) : Int) - 1) (k := -1) c (ev_bin od_sub (EvD.is (ev_cb ca_lenL c.len boot_len (eds_one (ev_var 5 rfl rfl))) (by rw [List.length_map])) ev_int) (ev_neg ev_int) (ev_neg ev_int) (by omega) (by have := hg.1; omega) (by omega) (by omega)) (fun _ _ _ _ E => E) (by rw [rngD_dn, hgl]; exact h3) ?_)
    exact run_one (run_ret (ev_ct ca_tupL c.tuple boot_tuple (eds_one (ev_var 6 rfl rfl))) ⟨st, rfl, h1, h2⟩)
  · intro u
    induction u using snoc_ind with
    | h0 =>
      intro x t fd Pp e hV hAl hfd
      have hx : x = [] := nil_of_counts (h := h) (n := m.ds.length) ⟨by have := hV.1; simp at this; omega, fun l hl => hV.2 l (List.mem_append_left _ hl)⟩ fun z _ => hAl.1 z
      subst hx
      rw [List.nil_append] at e
      subst e
      exact ⟨[], .nil _, rfl, by rw [List.append_nil]; rfl⟩
    | h1 u l ih =>
      intro x t fd Pp e hV hAl hfd
      obtain ⟨z, d⟩ := l
      have hcz : 0 < cnt z x := by rw [hAl.1 z, cnt_app, cnt_one, if_pos rfl]; omega
      obtain ⟨p, d0, q, rfl, hq⟩ := split_last hcz
      have hgl : g2[u.length]? = some (z, d) := by rw [e, List.append_assoc, List.getElem?_append_right (Nat.le_refl _)]; simp
      have hzd := hg2.2 (z, d) (List.mem_of_getElem? hgl)
      obtain ⟨L1, A1⟩ := round (t := t) hq hAl hV hzd.2
      have hxl : (p ++ (z, d0) :: q).length = (u ++ [(z, d)]).length := hlen hAl.1 ⟨by have := hV.1; simp at this ⊢; omega, fun l hl => hV.2 l (List.mem_append_left _ hl)⟩ ⟨by have := hg2.1; rw [e] at this; simp at this ⊢; omega, fun l hl => hg2.2 l (by rw [e]; exact List.mem_append_left _ hl)⟩
      have hpq : u.length = p.length + q.length := by simp at hxl; omega
      have hul : u.length + 1 ≤ 10 := by have := hg2.1; rw [e] at this; simp at this; omega
      have hVl := hV.1
      simp at hVl
      have hV' : VH h m.ds.length ((p ++ q) ++ ((z, d) :: t)) := ⟨by simp; omega, fun l hl => by
        by_cases k : l = (z, d)
        · rw [k]
          exact hzd
        · refine hV.2 l ?_
          simp at hl ⊢
          rcases hl with w | w | w | w
          · simp [w]
          · simp [w]
          · exact absurd w k
          · simp [w]⟩
      have hrl := roundSt_len p q d0 d
      have hr1 : (roundSt p q d0 d).length ≤ 1 + q.length := by rw [hrl]; split <;> omega
      have hfd' : fd.length ≤ 200 := by simp at hfd; omega
      obtain ⟨st, k1, k2, k3⟩ := ih (p ++ q) ((z, d) :: t) (fd ++ roundSt p q d0 d) Pp (by rw [e]; simp) hV' A1 (by rw [List.length_append]; simp at hfd; omega)
      have L1' : Lead m.f m.s h m.ds.length (p ++ (z, d0) :: q ++ t) (roundSt p q d0 d) ((p ++ q) ++ ((z, d) :: t)) := by
        have e2 : (p ++ q) ++ ((z, d) :: t) = (p ++ q ++ [(z, d)]) ++ t := by simp
        rw [e2]
        exact L1
      refine ⟨roundSt p q d0 d ++ st, L1'.trans k1, ?_, ?_⟩
      · rw [List.length_append, k2, hrl, far_step hq hAl.1]
      have eSt : (p ++ q) ++ ((z, d) :: t) = (p ++ q ++ [(z, d)]) ++ t := by simp
      rw [eSt, List.append_assoc fd (roundSt p q d0 d) st] at k3
      rw [List.length_append]
      have hHx : ((p ++ (z, d0) :: q) ++ t)[p.length]? = some (z, d0) := by simp
      generalize hHe : (p ++ (z, d0) :: q) ++ t = Hh at hHx ⊢
      have hHl : (Hh.map eL).length ≤ 10 := by rw [List.length_map, ← hHe]; exact hV.1
      have hat : ∀ i, i < u.length + 1 → Hh[i]? = some (Hh.getD i (0, 0)) ∧ ((Hh.getD i (0, 0)).1 = z → i ≤ p.length) := fun i hi => by
        obtain ⟨l, h1, h2⟩ := hand_at (t := t) (d0 := d0) hq (i := i) (p := p) (by simp; omega)
        rw [hHe] at h1
        rw [getD_of h1]
        exact ⟨h1, h2⟩
      have tail : ∀ (fst : List Step), fst.length ≤ 1 → roundSt p q d0 d = fst ++ ((List.range q.length).map fun i => .exch (p.length + i)) → RunS (bX P w K mg base N_some_way "some_way" (defScope s_some_way) f cdv A outer s H E) ((forBd (nth (defBody s_some_way) 3)).drop 3) [.arg (eM m), .arg (eN h), .arg (eH g), .arg (eH g2), .dat (.tuple [eH g, eH g2]), .lst (Hh.map eL), .lst ((fd ++ fst).map eS), .dat (eN u.length), .dat (eL (z, d)), .dat (eN p.length), .any]
          { Pp with nx := fun S' => ∃ vs, wipeS S' vs = [.arg (eM m), .arg (eN h), .arg (eH g), .arg (eH g2), .dat (.tuple [eH g, eH g2]), .lst (((p ++ q ++ [(z, d)]) ++ t).map eL), .lst ((fd ++ roundSt p q d0 d).map eS), .any, .any, .any, .any] } := fun fst hf1 hfe => by
        refine run_cons (run_extend 6 (es2 := (List.range q.length).map fun i => eS (.exch (p.length + i))) rfl (ev_lca c [("place", 10)] rfl (List.range q.length) (fun i => .one (.dat (eN (p.length + i)))) [10] (fun i => [_, _, _, _, _, _, _, _, _, _, .dat (eN (p.length + i))]) (fun i => eS (.exch (p.length + i))) (it_range2 c (ev_var 9 rfl rfl) (ev_var 7 rfl rfl) (by omega) (by omega) (by omega) (by omega)) (by rw [show (((u.length : Nat) : Int) - ((p.length : Nat) : Int)).toNat = q.length by omega, rng_lo]) rfl (by rw [List.length_range]; omega) (by decide) (fun x hx s H C cl fp => g_name 10 c.nd) fun x hx => ⟨rfl, fun s H C cl fp => ev_tup (eds_cons (ev_gstr G.exch) (eds_one (ev_var 10 rfl rfl)))⟩) (imms_map fun i _ => rfl) (by rw [List.length_map, List.length_map, List.length_append, List.length_range]; omega) ?_)
        have c1 := cutD_len (Hh.map eL) none (some ((p.length : Nat) : Int))
        have c2 := cutD_len (Hh.map eL) (some (((p.length : Nat) : Int) + 1)) (some (((u.length : Nat) : Int) + 1))
        have c3 := cutD_len (Hh.map eL) (some (((u.length : Nat) : Int) + 1)) none
        refine run_one (run_set 5 (.lst (((p ++ q ++ [(z, d)]) ++ t).map eL)) c ⟨imms_L _, EvN.is (ev_binN (on_cat (by rw [List.length_append, List.length_append]; show _ + _ + 1 + _ ≤ _; omega)) (EvN.toD (ev_binN (on_cat (by rw [List.length_append]; show _ + _ + 1 ≤ _; omega)) (EvN.toD (ev_binN (on_cat (by omega)) (EvN.toD (ev_slL (ev_var 5 rfl rfl) eo_none (eo_some (ev_var 9 rfl rfl)))) (EvN.toD (ev_slL (ev_var 5 rfl rfl) (eo_some (ev_bin od_add (ev_var 9 rfl rfl) ev_int)) (eo_some (ev_bin od_add (ev_var 7 rfl rfl) ev_int)))))) (EvN.toD (ev_lst (eds_one (ev_var 8 rfl rfl)))))) (EvN.toD (ev_slL (ev_var 5 rfl rfl) (eo_some (ev_bin od_add (ev_var 7 rfl rfl) ev_int)) eo_none))) ?_⟩ ⟨[7, 8, 9, 10], ?_⟩)
        · rw [cutD_take, show ((p.length : Nat) : Int) + 1 = ((p.length + 1 : Nat) : Int) from rfl, show ((u.length : Nat) : Int) + 1 = ((u.length + 1 : Nat) : Int) from rfl, cutD_mid, cutD_drop, hpq, ← hHe]
          exact moved
        · rw [hfe, ← List.append_assoc, List.map_append (l₁ := fd ++ fst), List.map_map]
          rfl
      refine ⟨[7], _, _, g_name 7 c.nd, ?_, k3⟩
      refine run_cons (run_set 8 (.dat (eL (z, d))) c ⟨imm_L _, ev_ixT (ev_ixT (i := 1) (ev_var 4 rfl rfl) ev_int rfl) (ev_var 7 rfl rfl) (atI_map (f := eL) (i := u.length) hgl)⟩ ?_)
      refine run_cons (run_set 9 (.dat (eN p.length)) c ⟨rfl, ev_cb (ca_max c (ns := ((List.range (u.length + 1)).filter fun i => decide ((Hh.getD i (0, 0)).1 = z)).map fun (i : Nat) => (i : Int)) (m := ((p.length : Nat) : Int)) ?_ ?_) c.max boot_max (eds_one (EvN.toD (ev_lci c [("place", 10)] rfl (List.range (u.length + 1)) (fun i => .one (.dat (eN i))) [10] (fun i => [_, _, _, _, _, .lst (Hh.map eL), _, _, .dat (eL (z, d)), _, .dat (eN i)]) (fun i => decide ((Hh.getD i (0, 0)).1 = z)) (fun i => eN i) (it_range c (ev_bin od_add (ev_var 7 rfl rfl) ev_int) (by omega) (by omega)) (rng_N (u.length + 1)) ?_ (by rw [List.length_range]; omega) (by decide) (fun x hx s H C cl fp => g_name 10 c.nd) (fun i hi s H C cl fp => ets_one (EvT.is (et_cmp (od_eqi c.blk) (ev_ixT (i := 0) (ev_ixL (ev_var 5 rfl rfl) (ev_var 10 rfl rfl) (atI_map (f := eL) (hat i (List.mem_range.mp hi)).1)) ev_int rfl) (ev_ixT (i := 0) (ev_var 8 rfl rfl) ev_int rfl)) (eqN _ _))) fun x hx _ => ⟨rfl, fun s H C cl fp => ev_var 10 rfl rfl⟩)))⟩ ?_)
      · refine List.mem_map.mpr ⟨p.length, List.mem_filter.mpr ⟨List.mem_range.mpr (by omega), decide_eq_true ?_⟩, rfl⟩
        rw [getD_of hHx]
      · intro y hy
        obtain ⟨i, hi, rfl⟩ := List.mem_map.mp hy
        obtain ⟨hi1, hi2⟩ := List.mem_filter.mp hi
        have := (hat i (List.mem_range.mp hi1)).2 (of_decide_eq_true hi2)
        omega
      · rw [List.map_map]
        rfl
      refine run_cons (run_if (k := !decide ((z, d0) = (z, d))) (et_cmp (od_neB c (shp_L _) (shp_L _) (eqv_L _ _)) (ev_ixL (ev_var 5 rfl rfl) (ev_var 9 rfl rfl) (atI_map (f := eL) hHx)) (ev_var 8 rfl rfl)) (fun k => ?_) fun k => ?_)
      · have e0 : d0 ≠ d := fun w => by simp [w] at k
        refine run_one (run_append 6 rfl (ev_tup (eds_cons (ev_gstr G.put) (eds_cons (ev_var 9 rfl rfl) (eds_one (ev_ixT (i := 1) (ev_var 8 rfl rfl) ev_int rfl))))) rfl (by rw [List.length_map]; omega) ?_)
        refine run_is ?_ (tail [.put p.length d] (by simp) (by unfold roundSt; rw [if_neg e0]))
        rw [List.map_append]
        rfl
      · have e0 : d0 = d := by simpa using k
        refine run_nil ?_
        refine run_is ?_ (tail [] (by simp) (by unfold roundSt; rw [if_pos e0]))
        rw [List.append_nil]
        rfl
end
end Ow
end

section
set_option linter.all false
set_option maxRecDepth 100000
set_option maxHeartbeats 4000000
set_option autoImplicit false
/-! Defs: compare. -/
namespace Ow
open PySem L2 OwL Om
open PyProof.Rows (envOfC)

section
variable {X : Cx} {S : List Sl} {a b c e : Expr} {pos : Pos} {d : PyData} {R : PyData → Prop}
theorem EvD.toR (h : EvD X e S d) (hr : R d) : EvR X e S R := fun A B H σ E Q q => h A B H σ E Q fun v H' e1 r => q d v H' hr e1 r
theorem evr_ife {k : Bool} (h : EvT X c S k) (h1 : k = true → EvR X a S R) (h2 : k = false → EvR X b S R) : EvR X (.IfExp c a b pos) S R := fun A B H σ E Q q => ⟨_, pe_ifExp wt we we, h A B H σ E _ fun H1 e1 => by
  cases k with
  | true => exact h1 rfl A B H1 σ (E.mono e1) Q fun d v H2 o e2 r2 => q d v H2 o (e1.trans e2) r2
  | false => exact h2 rfl A B H1 σ (E.mono e1) Q fun d v H2 o e2 r2 => q d v H2 o (e1.trans e2) r2⟩
theorem evr_tup2 {k : Nat} {R2 : PyData → Prop} (ha : EvD X a S d) (hb : EvR X b S R2) (hr : ∀ y, R2 y → R (.tuple [d, y])) (h1 : starEach [a, b] X.env = (false, eval a X.env) :: starEach [b] X.env := by rfl) (h2 : starEach [b] X.env = (false, eval b X.env) :: starEach [] X.env := by rfl) : EvR X (.Tuple [a, b] k pos) S R := fun A B H σ E Q q =>
  ⟨_, pe_tup (pa_cons we (pa_cons we pa_nil h2) h1), ha A B H σ E _ fun v H1 e1 r1 => hb A B H1 σ (E.mono e1) _ fun y u H2 o e2 r2 => ⟨by show 2 ≤ sizeLine; decide, fun p hp => q _ _ _ (hr y o) ((e1.trans e2).trans (Ex.new hp)) (.tup upd_same (.cons ((r1.ex e2).ex (Ex.new hp)) (.cons (r2.ex (Ex.new hp)) .nil)))⟩⟩
end
/-- what is told of two histories -/
def CmpOk (m : Mach) (h : Nat) (g g2 : Hist) (d : PyData) : Prop :=
  (counts h g ≠ counts h g2 ∧ d = .tuple [.str "numbers"]) ∨ (counts h g = counts h g2 ∧ same m h g g2 = true ∧ ∃ st, d = .tuple [.str "alike", .tuple (st.map eS)] ∧ WayOk m h g g2 st) ∨
    (counts h g = counts h g2 ∧ same m h g g2 = false ∧ d = .tuple [.str "apart", .tuple ((parts m h g g2).map eBk)])
theorem imm_partR (m : Mach) (h : Nat) (g g2 : Hist) : imm (partR m h g g2) = true := by
  unfold partR
  by_cases k : same m h g g2 = true
  · rw [if_pos k]
    rfl
  · rw [if_neg k]
    exact imms_map fun z _ => imm_Bk z
theorem VH.mono {h n k : Nat} {g : Hist} (v : VH h n g) (hk : n ≤ k) : VH h k g := ⟨v.1, fun l hl => ⟨(v.2 l hl).1, Nat.lt_of_lt_of_le (v.2 l hl).2 hk⟩⟩


abbrev s_compare : Stmt := top 84
theorem sc_compare : FnScope ["machine", "hands", "one", "other", "told", "first", "second", "backs"] ["machine", "hands", "one", "other"] (defScope s_compare) := ⟨rfl, rfl, rfl, by decide +kernel, rfl, by decide +kernel, by decide +kernel⟩
abbrev N_compare : List Str := ["machine", "hands", "one", "other", "told", "first", "second", "backs"]
abbrev S_compare : Sp := spR (α := (Bool × Mach) × Nat × (Bool × Hist) × (Bool × Hist)) (fun a => [eMb a.1.1 a.1.2, eN a.2.1, eHb a.2.2.1.1 a.2.2.1.2, eHb a.2.2.2.1 a.2.2.2.2]) (fun a => VM a.1.2 ∧ VHd a.2.1 ∧ VH a.2.1 a.1.2.ds.length a.2.2.1.2 ∧ VH a.2.1 a.1.2.ds.length a.2.2.2.2) (fun a => CmpOk a.1.2 a.2.1 a.2.2.1.2 a.2.2.2.2)
abbrev T_compare (P : Program) (w : World) (K : PySem.W.Frag) (mg : Str → Option Value) (base : Heap) : Prop := CalF P w K mg base "compare" 14 ["machine", "hands", "one", "other"] S_compare
section
variable {P : Program} {w : World} {K : PySem.W.Frag} {mg : Str → Option Value} {base : Heap} {f : Addr} {fd : FuncData}
theorem f_compare (B : Blt mg) (G : Gls mg) (F : FunD K "compare" "compare" (defArgs s_compare) (defBody s_compare) (defScope s_compare) [] [] f fd) (C_check_machine : T_check_machine P w K mg base) (C_check_history : T_check_history P w K mg base) (C_counts_of : T_counts_of P w K mg base) (C_parting : T_parting P w K mg base) (C_some_way : T_some_way P w K mg base)  : FnOk P w K mg base CX0 14 f fd ["machine", "hands", "one", "other"] S_compare := by
  refine fn_R F sc_compare (fun _ => rfl) (fun a => [.arg (eMb a.1.1 a.1.2), .arg (eN a.2.1), .arg (eHb a.2.2.1.1 a.2.2.1.2), .arg (eHb a.2.2.2.1 a.2.2.2.2)]) (fun _ _ => as_ok ⟨aA, aA, aA, aA, trivial⟩) fun ⟨⟨b1, m⟩, h, ⟨b2, g⟩, ⟨b3, g2⟩⟩ hp cdv A outer s H E hr => ?_
  try dsimp only at hp
  have c := ctx_of (P := P) (w := w) (K := K) (base := base) (f := f) (cdv := cdv) (outer := outer) (H := H) (E := E) B sc_compare.nd hr
  obtain ⟨hm, hh, hg, hg2⟩ : VM m ∧ VHd h ∧ VH h m.ds.length g ∧ VH h m.ds.length g2 := hp
  refine run_cons (run_set 4 (.dat (eM m)) c ⟨imm_M m, ev_call C_check_machine hr (b1, m) hm (eds_one (ev_var 0 rfl rfl))⟩ ?_)
  refine run_cons (run_par 5 6 (.dat (eH g)) (.dat (eH g2)) c ⟨imm_H _, ev_call C_check_history hr (m, h, b2, g) ⟨hm, hh, hg⟩ (eds_cons (ev_var 4 rfl rfl) (eds_cons (ev_var 1 rfl rfl) (eds_one (ev_var 2 rfl rfl))))⟩ ⟨imm_H _, ev_call C_check_history hr (m, h, b3, g2) ⟨hm, hh, hg2⟩ (eds_cons (ev_var 4 rfl rfl) (eds_cons (ev_var 1 rfl rfl) (eds_one (ev_var 3 rfl rfl))))⟩ (by decide) ?_)
  refine run_cons (run_if (k := !decide (counts h g = counts h g2)) (et_cmp (od_neB c (shp_Ns _) (shp_Ns _) (eqv_Ns _ _)) (ev_call C_counts_of hr (h, g) ⟨hh, hg.mono hm.d6⟩ (eds_cons (ev_var 1 rfl rfl) (eds_one (ev_var 5 rfl rfl)))) (ev_call C_counts_of hr (h, g2) ⟨hh, hg2.mono hm.d6⟩ (eds_cons (ev_var 1 rfl rfl) (eds_one (ev_var 6 rfl rfl))))) (fun k => run_one (run_ret (ev_tup (eds_one (ev_gstr G.numbers))) (.inl ⟨by simpa using k, rfl⟩))) fun k => run_nil ?_)
  have hc : counts h g = counts h g2 := by simpa using k
  refine run_cons (run_set 7 (.dat (partR m h g g2)) c ⟨imm_partR _ _ _ _, ev_call C_parting hr (m, h, g, g2) ⟨hm, hh, hg, hg2, hc⟩ (eds_cons (ev_var 4 rfl rfl) (eds_cons (ev_var 1 rfl rfl) (eds_cons (ev_var 5 rfl rfl) (eds_one (ev_var 6 rfl rfl)))))⟩ ?_)
  have hN : isN (partR m h g g2) = same m h g g2 := by
    unfold partR
    by_cases k : same m h g g2 = true
    · rw [if_pos k, k]
      rfl
    · rw [if_neg k, Bool.eq_false_iff.mpr k]
      rfl
  refine run_one (run_retR (evr_ife (EvT.is (et_cmp od_is (ev_var 7 rfl rfl) ev_none) hN) (fun k => evr_tup2 (ev_gstr G.alike) (ev_callR C_some_way hr (m, h, g, g2) ⟨hm, hh, hg, hg2, hc, k⟩ (eds_cons (ev_var 4 rfl rfl) (eds_cons (ev_var 1 rfl rfl) (eds_cons (ev_var 5 rfl rfl) (eds_one (ev_var 6 rfl rfl)))))) (R := CmpOk m h g g2) ?_) fun k => EvD.toR (d := .tuple [.str "apart", .tuple ((parts m h g g2).map eBk)]) (ev_tup (eds_cons (ev_gstr G.apart) (eds_one (EvD.is (ev_var 7 rfl rfl) ?_)))) (.inr (.inr ⟨hc, k, rfl⟩))) fun d q => q)
  · rintro y ⟨st, rfl, hw⟩
    exact .inr (.inl ⟨hc, k, st, rfl, hw⟩)
  · unfold partR
    rw [if_neg (by rw [k]; exact Bool.false_ne_true)]
theorem b_compare (F : FunD K "compare" "compare" (defArgs s_compare) (defBody s_compare) (defScope s_compare) [] [] f fd) : Binds K fd ["machine", "hands", "one", "other"] [] := F.bindsN fun _ _ _ _ _ _ us hl => match us, hl with | [_, _, _, _], _ => rfl
theorem c_compare (B : Blt mg) (G : Gls mg) (D : DefAt K mg "compare" s_compare) (C_check_machine : T_check_machine P w K mg base) (C_check_history : T_check_history P w K mg base) (C_counts_of : T_counts_of P w K mg base) (C_parting : T_parting P w K mg base) (C_some_way : T_some_way P w K mg base)  : T_compare P w K mg base := by
  obtain ⟨f, fd, h1, F⟩ := D.ex
  exact ⟨f, fd, h1, F.kp, b_compare F, f_compare B G F C_check_machine C_check_history C_counts_of C_parting C_some_way⟩
end

section
variable {K : PySem.W.Frag} {x qual : Str} {params : Arguments} {body : List Stmt} {scope : Scope} {f : Addr} {fd : FuncData} {ps ks : List Str} {n : Nat}
theorem kb_of (F : FunD K x qual params body scope [] [] f fd) (g : List Value → List Value → List Value) (gV : List V → List V → List V) (hrel : ∀ {vs : List V} {us : List Value} {zs : List V} {ws : List Value}, Vals vs us → Vals zs ws → Vals (gV vs zs) (g us ws))
    (h : ∀ (kV doc pm : Value) (an : Option Addr) (cdv ct : Value) (us ws : List Value), us.length = n → ws.length = ks.length → bindArgs (PySem.W.fnOf x qual params body scope .none kV doc pm an cdv ct) ⟨us, ks.zip ws⟩ = pure (ps.zip (g us ws))) : KBn K fd ps n ks g gV := by
  obtain ⟨oc, od, dV, kV, doc, pm, an, cdv, ct, osl, rfl, lk, hcd, hD, hK⟩ := F.ex
  rcases hD with ⟨_, rfl⟩ | ⟨e, _⟩
  · exact ⟨fun s us ws _ l1 l2 => .of_eq (h kV doc pm an cdv ct us ws l1 l2), hrel⟩
  · exact absurd rfl e
def perm4 {α : Type} : List α → List α
  | [a, b, c, d] => [d, c, b, a]
  | l => l
theorem perm4_vals {vs : List V} {us : List Value} (h : Vals vs us) : Vals (perm4 vs) (perm4 us) := by
  cases h with
  | nil => exact .nil
  | cons r1 h =>
    cases h with
    | nil => exact .cons r1 .nil
    | cons r2 h =>
      cases h with
      | nil => exact .cons r1 (.cons r2 .nil)
      | cons r3 h =>
        cases h with
        | nil => exact .cons r1 (.cons r2 (.cons r3 .nil))
        | cons r4 h =>
          cases h with
          | nil => exact .cons r4 (.cons r3 (.cons r2 (.cons r1 .nil)))
          | cons r5 h => exact .cons r1 (.cons r2 (.cons r3 (.cons r4 (.cons r5 h))))
theorem k_compare (F : FunD K "compare" "compare" (defArgs s_compare) (defBody s_compare) (defScope s_compare) [] [] f fd) : KBn K fd ["machine", "hands", "one", "other"] 0 ["other", "one", "hands", "machine"] (fun _ ws => perm4 ws) (fun _ zs => perm4 zs) :=
  kb_of F _ _ (fun _ r => perm4_vals r) fun kV doc pm an cdv ct us ws h1 h2 => match us, ws, h1, h2 with | [], [_, _, _, _], _, _ => rfl
end

end Ow
end

section
set_option linter.all false
set_option maxRecDepth 100000
set_option maxHeartbeats 4000000
set_option autoImplicit false
/-! Defs: the law, by hand. -/
namespace Ow
open PySem L2 OwL Om
open PyProof.Rows (envOfC)

theorem cnt_filter2 (z : Nat) (g : Hist) : (g.filter fun l => decide (l.1 = z)).length = cnt z g := by
  rw [← cnt_filter z g]
  congr 1
  exact List.filter_congr fun l _ => (eqN l.1 z).symm
theorem rep_counts (h : Nat) : List.replicate h (PyData.int 0) = (counts h []).map eN := (List.eq_replicate_iff.mpr ⟨by rw [List.length_map, counts_len], fun b hb => by
  obtain ⟨k, hk, rfl⟩ := List.mem_map.mp hb
  unfold counts at hk
  obtain ⟨z, _, rfl⟩ := List.mem_map.mp hk
  rfl⟩).symm
theorem counts_set {h : Nat} {u : Hist} {l : Nat × Nat} (hz : l.1 < h) : (counts h u).set l.1 (cnt l.1 u + 1) = counts h (u ++ [l]) := by
  apply List.ext_getElem?
  intro i
  rw [List.getElem?_set, counts_len]
  by_cases e : l.1 = i
  · subst e
    rw [if_pos rfl, if_pos hz, At_get (by rw [counts_len]; exact hz), counts_at hz, cnt_app, cnt_one, if_pos rfl]
  · rw [if_neg e]
    by_cases hi : i < h
    · rw [At_get (by rw [counts_len]; exact hi), At_get (by rw [counts_len]; exact hi), counts_at hi, counts_at hi, cnt_app, cnt_one, if_neg e]
      rfl
    · rw [List.getElem?_eq_none (by rw [counts_len]; omega), List.getElem?_eq_none (by rw [counts_len]; omega)]
theorem ixN_nat {n i : Nat} (h : i < n) : ixN n ((i : Nat) : Int) = some i := by
  unfold ixN
  rw [if_pos (Int.natCast_nonneg i), if_pos (by omega)]
  rfl


abbrev s_lw_counts : Stmt := top 95
theorem sc_lw_counts : FnScope ["_law_hands", "_law_history_here", "_law_one", "_law_deed", "_law_hand"] ["_law_hands", "_law_history_here"] (defScope s_lw_counts) := ⟨rfl, rfl, rfl, by decide +kernel, rfl, by decide +kernel, by decide +kernel⟩
abbrev N_lw_counts : List Str := ["_law_hands", "_law_history_here", "_law_one", "_law_deed", "_law_hand"]
abbrev T_lw_counts (P : Program) (w : World) (K : PySem.W.Frag) (mg : Str → Option Value) (base : Heap) : Prop := CalF P w K mg base "_law_counts" 1 ["_law_hands", "_law_history_here"] (spF (α := Nat × Hist) (fun a => [eN a.1, eH a.2]) (fun a => a.1 ≤ 4 ∧ a.2.length ≤ 100) (fun a => eNs (counts a.1 a.2)))
section
variable {P : Program} {w : World} {K : PySem.W.Frag} {mg : Str → Option Value} {base : Heap}
theorem c_lw_counts (B : Blt mg) (G : Gls mg) (D : DefAt K mg "_law_counts" s_lw_counts)   : T_lw_counts P w K mg base := by
  obtain ⟨f, fd, h1, F⟩ := D.ex
  refine ⟨f, fd, h1, F.kp, F.bindsN fun _ _ _ _ _ _ us hl => match us, hl with | [_, _], _ => rfl, ?_⟩
  refine fn_D F sc_lw_counts (fun _ => rfl) (fun a => [.arg (eN a.1), .arg (eH a.2)]) (fun _ _ => as_ok ⟨aA, aA, trivial⟩) fun ⟨h, g⟩ hp cdv A outer s H E hr => ?_
  try dsimp only at hp
  have c := ctx_of (P := P) (w := w) (K := K) (base := base) (f := f) (cdv := cdv) (outer := outer) (H := H) (E := E) B sc_lw_counts.nd hr
  obtain ⟨hh, hg⟩ : h ≤ 4 ∧ g.length ≤ 100 := hp
  refine run_one (run_ret (ev_ct ca_tupL c.tuple boot_tuple (eds_one (EvN.toD (ev_lca c [("_law_hand", 4)] rfl (List.range h) (fun x => .one (.dat (eN x))) [4] (fun x => [_, .arg (eH g), _, _, .dat (eN x)]) (fun z => eN (cnt z g)) (it_range c (ev_var 0 rfl rfl) (by omega) (by omega)) (rng_N h) rfl (by rw [List.length_range]; omega) (by decide) (fun x hx s H C cl fp => g_name 4 c.nd) fun z hz => ⟨rfl, fun s H C cl fp => EvD.is (ev_cb ca_lenL c.len boot_len (eds_one (EvN.toD (ev_lci c.blk [("_law_one", 2), ("_law_deed", 3)] rfl g (fun x => .one (.dat (eL x))) [2, 3] (fun x => [_, _, .dat (eN x.1), .dat (eN x.2), .dat (eN z)]) (fun l => decide (l.1 = z)) (fun _ => .int 1) (it_tup (ev_var 1 rfl rfl) (imms_L g)) (dats_map eL g) rfl (by omega) (by decide) (fun x hx s H C cl fp => GTo.ofTup (g_tup2 2 3 c.blk.blk)) (fun l hl s H C cl fp => ets_one (EvT.is (et_cmp (od_eqi c.blk.blk) (ev_var 2 rfl rfl) (ev_var 4 rfl rfl)) (eqN _ _))) fun l hl _ => ⟨rfl, fun s H C cl fp => ev_int⟩)))) (by rw [List.length_map, cnt_filter2]; rfl)⟩)))) (by unfold eNs counts; rw [List.map_map]; rfl))
end

abbrev s_lw_board : Stmt := top 96
theorem sc_lw_board : FnScope ["_law_machine_here", "_law_history_here", "_law_counts_here", "_law_board_here", "_law_seen_here", "_law_hand", "_law_deed"] ["_law_machine_here", "_law_history_here", "_law_counts_here"] (defScope s_lw_board) := ⟨rfl, rfl, rfl, by decide +kernel, rfl, by decide +kernel, by decide +kernel⟩
abbrev N_lw_board : List Str := ["_law_machine_here", "_law_history_here", "_law_counts_here", "_law_board_here", "_law_seen_here", "_law_hand", "_law_deed"]
abbrev T_lw_board (P : Program) (w : World) (K : PySem.W.Frag) (mg : Str → Option Value) (base : Heap) : Prop := CalF P w K mg base "_law_board" 1 ["_law_machine_here", "_law_history_here", "_law_counts_here"] (spF (α := Mach × Nat × Hist × List Nat) (fun a => [eM a.1, eH a.2.2.1, eNs a.2.2.2]) (fun a => VM a.1 ∧ a.2.1 ≤ 4 ∧ VH a.2.1 a.1.ds.length a.2.2.1 ∧ a.2.2.2.length = a.2.1) (fun a => eN (tab a.1 a.2.2.1 a.2.2.2)))
section
variable {P : Program} {w : World} {K : PySem.W.Frag} {mg : Str → Option Value} {base : Heap}
theorem c_lw_board (B : Blt mg) (G : Gls mg) (D : DefAt K mg "_law_board" s_lw_board)   : T_lw_board P w K mg base := by
  obtain ⟨f, fd, h1, F⟩ := D.ex
  refine ⟨f, fd, h1, F.kp, F.bindsN fun _ _ _ _ _ _ us hl => match us, hl with | [_, _, _], _ => rfl, ?_⟩
  refine fn_D F sc_lw_board (fun _ => rfl) (fun a => [.arg (eM a.1), .arg (eH a.2.2.1), .arg (eNs a.2.2.2)]) (fun _ _ => as_ok ⟨aA, aA, aA, trivial⟩) fun ⟨m, h, g, v⟩ hp cdv A outer s H E hr => ?_
  try dsimp only at hp
  have c := ctx_of (P := P) (w := w) (K := K) (base := base) (f := f) (cdv := cdv) (outer := outer) (H := H) (E := E) B sc_lw_board.nd hr
  obtain ⟨hm, hh, hg, hv⟩ : VM m ∧ h ≤ 4 ∧ VH h m.ds.length g ∧ v.length = h := hp
  have hg1 := hg.1
  refine run_cons (run_par 3 4 (.dat (eN m.s)) (.lst ((counts h []).map eN)) c ⟨rfl, ev_ixT (i := 0) (ev_var 0 rfl rfl) ev_int rfl⟩ ⟨imms_N _, EvN.is (ev_binN (on_rep (k := ((h : Nat) : Int)) (by omega) (by omega) (by rw [Int.toNat_natCast]; show 1 * h ≤ _; omega)) (EvN.toD (ev_lst (eds_one ev_int))) (EvD.is (ev_cb ca_lenT c.len boot_len (eds_one (ev_var 2 rfl rfl))) (by rw [List.length_map, hv]))) ?_⟩ (by decide) ?_)
  · rw [Int.toNat_natCast, rep_flat]
    exact rep_counts h
  refine run_cons (run_for c (items := g.map fun l => .one (.dat (eL l))) (S0 := [.arg (eM m), .arg (eH g), .arg (eNs v), .dat (eN (tab m [] v)), .lst ((counts h []).map eN), .any, .any]) (S' := [.arg (eM m), .arg (eH g), .arg (eNs v), .dat (eN (tab m g v)), .lst ((counts h g).map eN), .any, .any]) (dats_map eL g ▸ it_tup (ev_var 1 rfl rfl) (imms_L g)) (fun _ _ _ _ E => E) (for_run (fun l => .one (.dat (eL l))) (fun u => [.arg (eM m), .arg (eH g), .arg (eNs v), .dat (eN (tab m u v)), .lst ((counts h u).map eN), .any, .any]) g fun u l t e => ⟨[5, 6], _, GTo.ofTup (g_tup2 5 6 c), ?_⟩) ?_)
  · have hl := hg.2 l (by rw [← e]; simp)
    have htl : tab m u v < m.b := tab_lt hm u _ _ (fun x hx => (hg.2 x (by rw [← e]; simp [hx])).2) hm.s
    obtain ⟨r, k1, k2, _, _⟩ := hm.f_at hl.2 htl
    have hs : tab m (u ++ [l]) v = if cnt l.1 u < At v l.1 then m.f l.2 (tab m u v) else tab m u v := Bd_snoc m.f u l (At v) m.s
    have rest : RunS (bX P w K mg base N_lw_board "_law_board" (defScope s_lw_board) f cdv A outer s H E) ((forBd (nth (defBody s_lw_board) 1)).drop 1) [.arg (eM m), .arg (eH g), .arg (eNs v), .dat (eN (tab m (u ++ [l]) v)), .lst ((counts h u).map eN), .dat (eN l.1), .dat (eN l.2)] { nx := fun S' => ∃ vs, wipeS S' vs = [.arg (eM m), .arg (eH g), .arg (eNs v), .dat (eN (tab m (u ++ [l]) v)), .lst ((counts h (u ++ [l])).map eN), .any, .any], rt := fun d => d = eN (tab m g v) } := by
      refine run_one (run_setItem 4 (z := ((l.1 : Nat) : Int)) (j := l.1) (d := eN (cnt l.1 u + 1)) rfl (ev_bin od_add (ev_ixL (ev_var 4 rfl rfl) (ev_var 5 rfl rfl) (atI_map (f := eN) (show (counts h u)[l.1]? = some (cnt l.1 u) from by rw [At_get (by rw [counts_len]; exact hl.1), counts_at hl.1]))) ev_int) rfl (ev_var 5 rfl rfl) (ixN_nat (by rw [List.length_map, counts_len]; exact hl.1)) ⟨[5, 6], ?_⟩)
      rw [← counts_set hl.1, List.map_set]
      rfl
    refine run_cons (run_if (k := decide (cnt l.1 u < At v l.1)) (EvT.is (et_cmp od_lt (ev_ixL (ev_var 4 rfl rfl) (ev_var 5 rfl rfl) (atI_map (f := eN) (show (counts h u)[l.1]? = some (cnt l.1 u) from by rw [At_get (by rw [counts_len]; exact hl.1), counts_at hl.1]))) (ev_N (ev_var 2 rfl rfl) (ev_var 5 rfl rfl) (by rw [hv]; exact hl.1))) (ltN _ _)) (fun k => ?_) fun k => ?_)
    · refine run_one (run_set 3 (.dat (eN (tab m (u ++ [l]) v))) c ⟨rfl, EvD.is (ev_ixT (d := eN (m.f l.2 (tab m u v))) (ev_ixT (ev_ixT (i := 1) (ev_var 0 rfl rfl) ev_int rfl) (ev_var 6 rfl rfl) (atI_map (f := eNs) k1)) (ev_var 3 rfl rfl) (atI_map (f := eN) k2)) (by rw [hs, if_pos (of_decide_eq_true k)])⟩ rest)
    · refine run_nil (run_is ?_ rest)
      rw [hs, if_neg (of_decide_eq_false k)]
      rfl
  · exact run_one (run_ret (ev_var 3 rfl rfl) rfl)
end

abbrev s_lw_vectors : Stmt := top 97
theorem sc_lw_vectors : FnScope ["_law_counts_here", "_law_found", "_law_many", "_law_longer", "_law_vector", "_law_one"] ["_law_counts_here"] (defScope s_lw_vectors) := ⟨rfl, rfl, rfl, by decide +kernel, rfl, by decide +kernel, by decide +kernel⟩
abbrev N_lw_vectors : List Str := ["_law_counts_here", "_law_found", "_law_many", "_law_longer", "_law_vector", "_law_one"]
abbrev T_lw_vectors (P : Program) (w : World) (K : PySem.W.Frag) (mg : Str → Option Value) (base : Heap) : Prop := CalF P w K mg base "_law_vectors" 1 ["_law_counts_here"] (spN (α := List Nat) (fun cs => [eNs cs]) (CsOk) (fun cs => (vecs cs).map eNs))
section
variable {P : Program} {w : World} {K : PySem.W.Frag} {mg : Str → Option Value} {base : Heap}
theorem c_lw_vectors (B : Blt mg) (G : Gls mg) (D : DefAt K mg "_law_vectors" s_lw_vectors)   : T_lw_vectors P w K mg base := by
  obtain ⟨f, fd, h1, F⟩ := D.ex
  refine ⟨f, fd, h1, F.kp, F.bindsN fun _ _ _ _ _ _ us hl => match us, hl with | [_], _ => rfl, ?_⟩
  refine fn_N F sc_lw_vectors (fun _ => rfl) (fun cs => [.arg (eNs cs)]) (fun _ _ => as_ok ⟨aA, trivial⟩) fun cs hp cdv A outer s H E hr => ?_
  try dsimp only at hp
  have c := ctx_of (P := P) (w := w) (K := K) (base := base) (f := f) (cdv := cdv) (outer := outer) (H := H) (E := E) B sc_lw_vectors.nd hr
  refine run_cons (run_set 1 (.lst ([[]].map eNs)) c ⟨rfl, ev_lst (eds_one (ev_tup eds_nil))⟩ ?_)
  refine run_cons (run_for c (items := cs.map fun l => .one (.dat (eN l))) (S0 := [.arg (eNs cs), .lst ((vecs []).map eNs), .any, .any, .any, .any]) (S' := [.arg (eNs cs), .lst ((vecs cs).map eNs), .any, .any, .any, .any]) (dats_map eN cs ▸ it_tup (ev_var 0 rfl rfl) (imms_N cs)) (fun _ _ _ _ E => E) (for_run (fun l => .one (.dat (eN l))) (fun u => [.arg (eNs cs), .lst ((vecs u).map eNs), .any, .any, .any, .any]) cs fun u k v e => ⟨[2], _, g_name 2 c.nd, ?_⟩) ?_)
  · have hsum : (u ++ [k]).sum ≤ 10 := by
      have := hp.sum
      rw [← e] at this
      have q := sum_le_app (u ++ [k]) v
      rw [List.append_assoc] at q
      exact Nat.le_trans q this
    have hk : k ≤ 10 := by rw [sum_snoc] at hsum; omega
    have hlen := vecs_1024 hsum
    rw [vecs_snoc] at hlen
    have hu : u.length ≤ 4 := by have := congrArg List.length e; have := hp.four; simp at *; omega
    have hvl : ∀ w ∈ vecs u, w.length ≤ 4 := fun w hw => by rw [((mem_vecs u w).mp hw).1]; exact hu
    refine run_cons (run_set 3 (.lst []) c ⟨rfl, ev_lst eds_nil⟩ ?_)
    refine run_cons (run_for c (items := (vecs u).map fun l => .one (.dat (eNs l))) (S0 := [.arg (eNs cs), .any, .dat (eN k), .lst ((vstep [] k).map eNs), .any, .any]) (S' := [.arg (eNs cs), .any, .dat (eN k), .lst ((vstep (vecs u) k).map eNs), .any, .any]) (dats_map eNs _ ▸ it_own 1 rfl) (fun _ _ _ _ E => E.forget' (i := 1)) (for_run (fun l => .one (.dat (eNs l))) (fun u' => [.arg (eNs cs), .any, .dat (eN k), .lst ((vstep u' k).map eNs), .any, .any]) (vecs u) fun u' w v' e' => ⟨[4], _, g_name 4 c.nd, ?_⟩) ?_)
    · have hw : w ∈ vecs u := by rw [← e']; simp
      have es : vstep (u' ++ [w]) k = vstep u' k ++ (List.range (k + 1)).map fun x => w ++ [x] := by
        unfold vstep
        rw [List.flatMap_append, List.flatMap_cons, List.flatMap_nil, List.append_nil]
      have hl2 : (vstep u' k).length ≤ 1024 := by
        rw [vstep_len] at hlen ⊢
        have : u'.length ≤ (vecs u).length := by rw [← e']; simp
        exact Nat.le_trans (Nat.mul_le_mul_right _ this) hlen
      refine run_one (run_set 3 (.lst ((vstep (u' ++ [w]) k).map eNs)) c ⟨imms_map fun x _ => imm_Ns x, EvN.is (ev_binN (on_cat (by rw [List.length_map, List.length_map, List.length_range]; omega)) (ev_var 3 rfl rfl) (EvN.toD (ev_lca c [("_law_one", 5)] rfl (List.range (k + 1)) (fun x => .one (.dat (eN x))) [5] (fun x => [_, _, _, _, .dat (eNs w), .dat (eN x)]) (fun x => eNs (w ++ [x])) (it_range c (ev_bin od_add (ev_var 2 rfl rfl) ev_int) (by omega) (by omega)) (rng_N (k + 1)) rfl (by rw [List.length_range]; omega) (by decide) (fun x hx s H C cl fp => g_name 5 c.nd) fun x hx => ⟨imm_Ns _, fun s H C cl fp => EvD.is (ev_bin (od_cat (by have := hvl w hw; rw [List.length_map]; show _ + 1 ≤ _; omega)) (ev_var 4 rfl rfl) (ev_tup (eds_one (ev_var 5 rfl rfl)))) (by show PyData.tuple (w.map eN ++ [eN x]) = PyData.tuple ((w ++ [x]).map eN); rw [List.map_append]; rfl)⟩))) ?_⟩ ⟨[4], rfl⟩)
      rw [es, List.map_append, List.map_map]
      rfl
    · refine run_one (run_move 1 3 c rfl (by decide) ⟨[2], ?_⟩)
      rw [vecs_snoc]
      rfl
  · exact run_one (run_retOwn 1 rfl rfl)
end

abbrev s_lw_table : Stmt := top 98
theorem sc_lw_table : FnScope ["_law_machine_here", "_law_hands", "_law_history_here", "_law_counts_here", "_law_vector"] ["_law_machine_here", "_law_hands", "_law_history_here"] (defScope s_lw_table) := ⟨rfl, rfl, rfl, by decide +kernel, rfl, by decide +kernel, by decide +kernel⟩
abbrev N_lw_table : List Str := ["_law_machine_here", "_law_hands", "_law_history_here", "_law_counts_here", "_law_vector"]
abbrev T_lw_table (P : Program) (w : World) (K : PySem.W.Frag) (mg : Str → Option Value) (base : Heap) : Prop := CalF P w K mg base "_law_table" 2 ["_law_machine_here", "_law_hands", "_law_history_here"] (spF (α := Mach × Nat × Hist) (fun a => [eM a.1, eN a.2.1, eH a.2.2]) (fun a => VM a.1 ∧ VHd a.2.1 ∧ VH a.2.1 a.1.ds.length a.2.2) (fun a => eTg a.1 a.2.1 a.2.2))
section
variable {P : Program} {w : World} {K : PySem.W.Frag} {mg : Str → Option Value} {base : Heap}
theorem c_lw_table (B : Blt mg) (G : Gls mg) (D : DefAt K mg "_law_table" s_lw_table) (C_lw_counts : T_lw_counts P w K mg base) (C_lw_vectors : T_lw_vectors P w K mg base) (C_lw_board : T_lw_board P w K mg base)  : T_lw_table P w K mg base := by
  obtain ⟨f, fd, h1, F⟩ := D.ex
  refine ⟨f, fd, h1, F.kp, F.bindsN fun _ _ _ _ _ _ us hl => match us, hl with | [_, _, _], _ => rfl, ?_⟩
  refine fn_D F sc_lw_table (fun _ => rfl) (fun a => [.arg (eM a.1), .arg (eN a.2.1), .arg (eH a.2.2)]) (fun _ _ => as_ok ⟨aA, aA, aA, trivial⟩) fun ⟨m, h, g⟩ hp cdv A outer s H E hr => ?_
  try dsimp only at hp
  have c := ctx_of (P := P) (w := w) (K := K) (base := base) (f := f) (cdv := cdv) (outer := outer) (H := H) (E := E) B sc_lw_table.nd hr
  obtain ⟨hm, hh, hg⟩ : VM m ∧ VHd h ∧ VH h m.ds.length g := hp
  have cs1 := CsOk.counts (g := g) hh hg.1
  have h1024 := vecs_1024 cs1.sum
  refine run_cons (run_set 3 (.dat (eNs (counts h g))) c ⟨imm_Ns _, ev_call C_lw_counts hr (h, g) ⟨hh.2, by have := hg.1; show g.length ≤ 100; omega⟩ (eds_cons (ev_var 1 rfl rfl) (eds_one (ev_var 2 rfl rfl)))⟩ ?_)
  exact run_one (run_ret (ev_tup (eds_cons (ev_var 3 rfl rfl) (eds_one (ev_ct ca_tupL c.tuple boot_tuple (eds_one (EvN.toD (ev_lca c [("_law_vector", 4)] rfl (vecs (counts h g)) (fun x => .one (.dat (eNs x))) [4] (fun x => [.arg (eM m), _, .arg (eH g), _, .dat (eNs x)]) (fun v => eN (tab m g v)) (it_new (ev_callN C_lw_vectors hr (counts h g) cs1 (eds_one (ev_var 3 rfl rfl))) (imms_map fun x _ => imm_Ns x)) (dats_map eNs _) rfl (by omega) (by decide) (fun x hx s H C cl fp => g_name 4 c.nd) fun v hv => ⟨rfl, fun s H C cl fp => ev_call C_lw_board hr (m, h, g, v) ⟨hm, hh.2, hg, ((mem_vecs _ v).mp hv).len⟩ (eds_cons (ev_var 0 rfl rfl) (eds_cons (ev_var 2 rfl rfl) (eds_one (ev_var 4 rfl rfl))))⟩))))))) rfl)
end

abbrev s_lw_seen : Stmt := top 107
theorem sc_lw_seen : FnScope ["_law_machine_here", "_law_hands", "_law_history_here"] ["_law_machine_here", "_law_hands", "_law_history_here"] (defScope s_lw_seen) := ⟨rfl, rfl, rfl, by decide +kernel, rfl, by decide +kernel, by decide +kernel⟩
abbrev N_lw_seen : List Str := ["_law_machine_here", "_law_hands", "_law_history_here"]
abbrev T_lw_seen (P : Program) (w : World) (K : PySem.W.Frag) (mg : Str → Option Value) (base : Heap) : Prop := CalF P w K mg base "_law_seen" 2 ["_law_machine_here", "_law_hands", "_law_history_here"] (spF (α := Mach × Nat × Hist) (fun a => [eM a.1, eN a.2.1, eH a.2.2]) (fun a => VM a.1 ∧ VHd a.2.1 ∧ VH a.2.1 a.1.ds.length a.2.2) (fun a => eN (tab a.1 a.2.2 (counts a.2.1 a.2.2))))
section
variable {P : Program} {w : World} {K : PySem.W.Frag} {mg : Str → Option Value} {base : Heap}
theorem c_lw_seen (B : Blt mg) (G : Gls mg) (D : DefAt K mg "_law_seen" s_lw_seen) (C_lw_counts : T_lw_counts P w K mg base) (C_lw_board : T_lw_board P w K mg base)  : T_lw_seen P w K mg base := by
  obtain ⟨f, fd, h1, F⟩ := D.ex
  refine ⟨f, fd, h1, F.kp, F.bindsN fun _ _ _ _ _ _ us hl => match us, hl with | [_, _, _], _ => rfl, ?_⟩
  refine fn_D F sc_lw_seen (fun _ => rfl) (fun a => [.arg (eM a.1), .arg (eN a.2.1), .arg (eH a.2.2)]) (fun _ _ => as_ok ⟨aA, aA, aA, trivial⟩) fun ⟨m, h, g⟩ hp cdv A outer s H E hr => ?_
  try dsimp only at hp
  have c := ctx_of (P := P) (w := w) (K := K) (base := base) (f := f) (cdv := cdv) (outer := outer) (H := H) (E := E) B sc_lw_seen.nd hr
  obtain ⟨hm, hh, hg⟩ : VM m ∧ VHd h ∧ VH h m.ds.length g := hp
  exact run_one (run_ret (ev_call C_lw_board hr (m, h, g, counts h g) ⟨hm, hh.2, hg, counts_len h g⟩ (eds_cons (ev_var 0 rfl rfl) (eds_cons (ev_var 2 rfl rfl) (eds_one (ev_call C_lw_counts hr (h, g) ⟨hh.2, by have := hg.1; show g.length ≤ 100; omega⟩ (eds_cons (ev_var 1 rfl rfl) (eds_one (ev_var 2 rfl rfl)))))))) rfl)
end
end Ow
end

section
set_option linter.all false
set_option autoImplicit false
/-! Backs lead to beginnings; presses keep what is alike. Plain. -/
namespace Ow
open PySem L2 OwL Om
theorem bk_of {z : Nat} {g : Hist} (hz : 0 < cnt z g) : ∃ p d q, g = p ++ (z, d) :: q ∧ cnt z q = 0 ∧ bk z g = p ++ q := by
  obtain ⟨p, d, q, e, hq⟩ := split_last hz
  exact ⟨p, d, q, e, hq, by rw [e]; exact bk_eq hq p⟩
theorem bk_cnt {z : Nat} {g : Hist} (hz : 0 < cnt z g) (y : Nat) : cnt y (bk z g) + (if z = y then 1 else 0) = cnt y g := by
  obtain ⟨p, d, q, rfl, hq, e⟩ := bk_of hz
  rw [e, cnt_back]
theorem bk_len {z : Nat} {g : Hist} (hz : 0 < cnt z g) : (bk z g).length + 1 = g.length := by
  obtain ⟨p, d, q, rfl, hq, e⟩ := bk_of hz
  rw [e]
  simp
  omega
theorem bk_VH {h n z : Nat} {g : Hist} (hz : 0 < cnt z g) (v : VH h n g) : VH h n (bk z g) := by
  obtain ⟨p, d, q, rfl, hq, e⟩ := bk_of hz
  rw [e]
  exact v.back
theorem bk_Bd (f : Nat → Nat → Nat) {z : Nat} {g : Hist} (hz : 0 < cnt z g) {n : Nat → Nat} (hn : n z ≤ cnt z (bk z g)) (b : Nat) : Bd f (bk z g) n b = Bd f g n b := by
  obtain ⟨p, d, q, rfl, hq, e⟩ := bk_of hz
  rw [e] at hn ⊢
  rw [cnt_app, hq] at hn
  exact (Bd_back f hn b).symm
theorem bk_alike {f : Nat → Nat → Nat} {s z : Nat} {g g' : Hist} (A : Alike f s g g') (hz : 0 < cnt z g) : Alike f s (bk z g) (bk z g') := by
  have hz' : 0 < cnt z g' := by rw [← A.1]; exact hz
  refine alike_of f s (fun y => ?_) fun n hn => ?_
  · have h1 := bk_cnt hz y
    have h2 := bk_cnt hz' y
    have h3 := A.1 y
    omega
  · have h1 := bk_cnt hz z
    have h2 := bk_cnt hz' z
    have h3 := A.1 z
    have h4 := hn z
    rw [bk_Bd f hz h4, bk_Bd f hz' (by omega), A.2]
theorem prs_alike {f : Nat → Nat → Nat} {s h n : Nat} {g g' : Hist} (A : Alike f s g g') {p : Press} (hp : PrOk h n g p) : Alike f s (prs g p) (prs g' p) := by
  cases p with
  | deed z d => exact alike_app f s A [(z, d)]
  | back z => exact bk_alike A hp
def PrPre (g : Hist) : Press → Prop
  | .deed _ _ => True
  | .back z => 0 < cnt z g
/-- the presses, one behind another -/
inductive PrsOk : Hist → List Press → Hist → Prop
  | nil (g : Hist) : PrsOk g [] g
  | cons {g g2 : Hist} {p : Press} {r : List Press} : g.length ≤ 100 → PrPre g p → PrsOk (prs g p) r g2 → PrsOk g (p :: r) g2
theorem led_backs (f : Nat → Nat → Nat) {h n : Nat} : ∀ (bs : List Nat) (g : Hist), VH h n g → (∀ z, bs.count z ≤ cnt z g) → ∃ g', PrsOk g (bs.map .back) g' ∧ VH h n g' ∧ (∀ z, cnt z g' + bs.count z = cnt z g) ∧ ∀ m b, (∀ y, m y ≤ cnt y g') → Bd f g' m b = Bd f g m b
  | [], g, v, _ => ⟨g, .nil g, v, fun _ => rfl, fun _ _ _ => rfl⟩
  | z :: bs, g, v, hc => by
    have hz : 0 < cnt z g := by have := hc z; rw [List.count_cons_self] at this; omega
    have hk := bk_cnt hz
    obtain ⟨g', h1, h2, h3, h4⟩ := led_backs f bs (bk z g) (bk_VH hz v) fun y => by
      have k1 := hc y
      have k2 := hk y
      rw [List.count_cons] at k1
      by_cases e : z = y
      · subst e
        rw [if_pos (by simp)] at k1
        rw [if_pos rfl] at k2
        omega
      · rw [if_neg (by simpa using e)] at k1
        rw [if_neg e] at k2
        omega
    refine ⟨g', .cons (by have := v.1; omega) hz h1, h2, fun y => ?_, fun m b hm => ?_⟩
    · have k1 := h3 y
      have k2 := hk y
      rw [List.count_cons]
      by_cases e : z = y
      · subst e
        rw [if_pos (by simp)]
        rw [if_pos rfl] at k2
        omega
      · rw [if_neg (by simpa using e)]
        rw [if_neg e] at k2
        omega
    · rw [h4 m b hm, bk_Bd f hz (by have := hm z; have := h3 z; omega)]
/-- how many backs of a hand -/
theorem bt_count (v : List Nat) (z : Nat) : ∀ (u : List (Nat × Nat)), (btOf v u).count z = ((u.filter fun x => decide (x.1 = z)).map fun x => x.2 - At v x.1).sum
  | [] => rfl
  | x :: u => by
    have ih := bt_count v z u
    have e : btOf v (x :: u) = List.replicate (x.2 - At v x.1) x.1 ++ btOf v u := by unfold btOf; rw [List.flatMap_cons]
    rw [e, List.count_append, List.count_replicate, ih, List.filter_cons]
    by_cases k : x.1 = z
    · rw [if_pos (by simpa using k), if_pos (by simpa using k), List.map_cons, List.sum_cons]
    · rw [if_neg (by simpa using k), if_neg (by simpa using k)]
      omega
theorem en_snoc {α : Type} (l : List α) (a : α) : en (l ++ [a]) = en l ++ [(l.length, a)] := by
  rw [en_app]
  rfl
theorem en_filter (z : Nat) : ∀ cs : List Nat, (en cs).filter (fun x => decide (x.1 = z)) = if z < cs.length then [(z, At cs z)] else [] := by
  intro cs
  induction cs using snoc_ind with
  | h0 => rfl
  | h1 cs k ih =>
    rw [en_snoc, List.filter_append, ih, List.length_append]
    by_cases h : z < cs.length
    · rw [if_pos h, if_pos (by simp; omega), List.filter_cons, if_neg (by simp; omega), At_app_left h]
      rfl
    · by_cases e : cs.length = z
      · subst e
        rw [if_neg h, if_pos (by simp), List.filter_cons, if_pos (by simp), At_app_last]
        rfl
      · rw [if_neg h, if_neg (by simp; omega), List.filter_cons, if_neg (by simpa using e)]
        rfl
theorem backs_count {cs v : List Nat} (z : Nat) : (backsTo cs v).count z = At cs z - At v z := by
  unfold backsTo
  rw [bt_count, en_filter]
  by_cases h : z < cs.length
  · rw [if_pos h]
    simp
  · rw [if_neg h, At_out (by omega)]
    simp
theorem backs_len : ∀ {cs v : List Nat}, Fits v cs → (backsTo cs v).length = cs.sum - v.sum := by
  intro cs
  induction cs using snoc_ind with
  | h0 =>
    intro v h
    show 0 = 0 - v.sum
    omega
  | h1 cs k ih =>
    intro v h
    rcases List.eq_nil_or_concat v with rfl | ⟨u, x, rfl⟩
    · have := h.1
      simp at this
    · rw [List.concat_eq_append] at h ⊢
      obtain ⟨h1, h2⟩ := h.unsnoc
      have := ih h1
      have hs := h1.sum
      have e : btOf (u ++ [x]) (en cs) = btOf u (en cs) := by
        unfold btOf
        rw [List.flatMap_def, List.flatMap_def]
        congr 1
        refine List.map_congr_left fun y hy => ?_
        have hy1 : y.1 < u.length := by rw [h1.1]; exact (List.getElem?_eq_some_iff.mp (en_get hy)).1
        rw [At_app_left hy1]
      unfold backsTo at this ⊢
      rw [en_snoc, btOf_snoc, List.length_append, e, this, List.length_replicate, sum_snoc, sum_snoc]
      show _ + (k - At (u ++ [x]) cs.length) = _
      rw [← h1.1, At_app_last]
      omega
theorem list_ext_At {v w : List Nat} (hl : v.length = w.length) (h : ∀ i, i < v.length → At v i = At w i) : v = w := by
  apply List.ext_getElem?
  intro i
  by_cases hi : i < v.length
  · rw [At_get hi, At_get (by rw [← hl]; exact hi), h i hi]
  · rw [List.getElem?_eq_none (by omega), List.getElem?_eq_none (by omega)]
/-- behind the backs to a vector: the board of the vector -/
theorem led_vec {m : Mach} {h : Nat} {g : Hist} {v : List Nat} (vg : VH h m.ds.length g) (hv : Fits v (counts h g)) : ∃ g', PrsOk g ((backsTo (counts h g) v).map .back) g' ∧ VH h m.ds.length g' ∧ tab m g' (counts h g') = tab m g v := by
  obtain ⟨g', h1, h2, h3, h4⟩ := led_backs m.f (backsTo (counts h g) v) g vg fun z => by
    rw [backs_count]
    by_cases hz : z < h
    · rw [counts_at hz]
      omega
    · rw [At_out (by rw [counts_len]; omega)]
      omega
  have e : counts h g' = v := list_ext_At (by rw [counts_len, hv.len]) fun z hz => by
    rw [counts_len] at hz
    have k1 := h3 z
    rw [backs_count, counts_at hz] at k1
    have k2 := hv.cnt hz
    rw [counts_at hz]
    omega
  refine ⟨g', h1, h2, ?_⟩
  rw [e]
  refine h4 (At v) m.s fun y => ?_
  by_cases hy : y < h
  · rw [← e, counts_at hy]
    exact Nat.le_refl _
  · rw [At_out (by rw [hv.len]; omega)]
    exact Nat.zero_le _
end Ow
end

section
set_option linter.all false
set_option maxRecDepth 100000
set_option maxHeartbeats 4000000
set_option autoImplicit false
/-! Defs: the law, presses and steps. -/
namespace Ow
open PySem L2 OwL Om
open PyProof.Rows (envOfC)

def ePr : Press → PyData
  | .deed z d => eP (z, d)
  | .back z => eBk z
theorem imm_Pr : ∀ p : Press, imm (ePr p) = true
  | .deed _ _ => rfl
  | .back _ => rfl
theorem eN_en (g : Hist) : ((g.map eL).mapIdx fun i d => Itm.tup [.dat (.int (i : Nat)), .dat d]) = (en g).map fun x => Itm.tup [.dat (eN x.1), .dat (eL x.2)] := en_map _ _ _
theorem atI_lastN {L : List Nat} {d : Nat} : atI ((L ++ [d]).map eN) ((((L ++ [d]).map eN).length : Int) - 1) = some (eN d) := by
  have e : ((((L ++ [d]).map eN).length : Int) - 1) = ((L.length : Nat) : Int) := by
    rw [List.length_map, List.length_append]
    show ((L.length + 1 : Nat) : Int) - 1 = _
    omega
  rw [e]
  exact atI_map (by simp)
theorem cutD_two (g : Hist) (a : Nat) : cutD (g.map eL) none (some ((a : Nat) : Int)) = (g.take a).map eL := by rw [cutD_take, List.map_take]
theorem cutD_two' (g : Hist) (a : Nat) : cutD (g.map eL) (some (((a : Nat) : Int) + 1)) none = (g.drop (a + 1)).map eL := by rw [show ((a : Nat) : Int) + 1 = ((a + 1 : Nat) : Int) from rfl, cutD_drop, List.map_drop]
theorem cutD_two'' (g : Hist) (a : Nat) : cutD (g.map eL) (some (((a : Nat) : Int) + 2)) none = (g.drop (a + 2)).map eL := by rw [show ((a : Nat) : Int) + 2 = ((a + 2 : Nat) : Int) from rfl, cutD_drop, List.map_drop]


abbrev s_lw_pressed : Stmt := top 101
theorem sc_lw_pressed : FnScope ["_law_history_here", "_law_press", "_law_places", "_law_at", "_law_letter"] ["_law_history_here", "_law_press"] (defScope s_lw_pressed) := ⟨rfl, rfl, rfl, by decide +kernel, rfl, by decide +kernel, by decide +kernel⟩
abbrev N_lw_pressed : List Str := ["_law_history_here", "_law_press", "_law_places", "_law_at", "_law_letter"]
abbrev T_lw_pressed (P : Program) (w : World) (K : PySem.W.Frag) (mg : Str → Option Value) (base : Heap) : Prop := CalF P w K mg base "_law_pressed" 1 ["_law_history_here", "_law_press"] (spF (α := Hist × Press) (fun a => [eH a.1, ePr a.2]) (fun a => a.1.length ≤ 100 ∧ PrPre a.1 a.2) (fun a => eH (prs a.1 a.2)))
section
variable {P : Program} {w : World} {K : PySem.W.Frag} {mg : Str → Option Value} {base : Heap}
theorem c_lw_pressed (B : Blt mg) (G : Gls mg) (D : DefAt K mg "_law_pressed" s_lw_pressed)   : T_lw_pressed P w K mg base := by
  obtain ⟨f, fd, h1, F⟩ := D.ex
  refine ⟨f, fd, h1, F.kp, F.bindsN fun _ _ _ _ _ _ us hl => match us, hl with | [_, _], _ => rfl, ?_⟩
  refine fn_D F sc_lw_pressed (fun _ => rfl) (fun a => [.arg (eH a.1), .arg (ePr a.2)]) (fun _ _ => as_ok ⟨aA, aA, trivial⟩) fun ⟨g, pr⟩ hp cdv A outer s H E hr => ?_
  try dsimp only at hp
  have c := ctx_of (P := P) (w := w) (K := K) (base := base) (f := f) (cdv := cdv) (outer := outer) (H := H) (E := E) B sc_lw_pressed.nd hr
  obtain ⟨hg, hpr⟩ : g.length ≤ 100 ∧ PrPre g pr := hp
  cases pr with
  | deed z d =>
    refine run_cons (run_if (k := true) (EvT.is (et_cmp (od_eqS c) (ev_ixT (i := 0) (ds := [.str "deed", eN z, eN d]) (ev_var 1 rfl rfl) ev_int rfl) ev_str) (by decide +kernel)) (fun _ => run_one (run_ret (ev_bin (od_cat (by rw [List.length_map]; show g.length + 1 ≤ _; omega)) (ev_var 0 rfl rfl) (ev_tup (eds_one (ev_tup (eds_cons (ev_ixT (i := 1) (ds := [.str "deed", eN z, eN d]) (ev_var 1 rfl rfl) ev_int rfl) (eds_one (ev_ixT (i := 2) (ds := [.str "deed", eN z, eN d]) (ev_var 1 rfl rfl) ev_int rfl))))))) ?_)) fun z => nomatch z)
    show _ = PyData.tuple ((g ++ [(z, d)]).map eL)
    rw [List.map_append]
    rfl
  | back z =>
    have hz : 0 < cnt z g := hpr
    obtain ⟨p, d, q, rfl, hq⟩ := split_last hz
    obtain ⟨L, hL⟩ := places_last (p := p) (d := d) hq
    have hlen : (L ++ [p.length]).length ≤ 100 := by
      rw [← hL, List.length_map]
      exact Nat.le_trans (List.length_filter_le _ _) (by rw [en_len]; exact hg)
    refine run_cons (run_if (k := false) (EvT.is (et_cmp (od_eqS c) (ev_ixT (i := 0) (ds := [.str "back", eN z]) (ev_var 1 rfl rfl) ev_int rfl) ev_str) (by decide +kernel)) (fun z => nomatch z) fun _ => run_nil ?_)
    refine run_cons (run_lci 2 c [("_law_at", 3), ("_law_letter", 4)] rfl (en (p ++ (z, d) :: q)) (fun x => .tup [.dat (eN x.1), .dat (eL x.2)]) [3, 4] (fun x => [_, .arg (eBk z), _, .dat (eN x.1), .dat (eL x.2)]) (fun x => decide (x.2.1 = z)) (fun x => eN x.1) (it_enum c (ev_var 0 rfl rfl) (imms_L _)) (eN_en _) (by rw [en_len]; omega) (by decide) (fun x hx s H C cl fp => g_tup2 3 4 c.blk) (fun x hx s H C cl fp => ets_one (EvT.is (et_cmp (od_eqi c.blk) (ev_ixT (i := 0) (ev_var 4 rfl rfl) ev_int rfl) (ev_ixT (i := 1) (ds := [.str "back", eN z]) (ev_var 1 rfl rfl) ev_int rfl)) (eqN _ _))) (fun x hx _ => ⟨rfl, fun s H C cl fp => ev_var 3 rfl rfl⟩) ?_)
    have e : ((en (p ++ (z, d) :: q)).filter fun x => decide (x.2.1 = z)).map (fun x => eN x.1) = (L ++ [p.length]).map eN := by rw [← hL, List.map_map]; rfl
    rw [e]
    have pl : ∀ {X : Cx} {S : List Sl} {a b a2 : Expr} {p1 p2 p3 : Pos}, EvD X a S (.list ((L ++ [p.length]).map eN)) → EvD X b S (.int (((((L ++ [p.length]).map eN).length : Nat) : Int) - 1)) → PlainIx b → EvD X (.Subscript a b p1) S (eN p.length) := fun h h2 hs => ev_ixL h h2 atI_lastN hs
    have c1 := cutD_len ((p ++ (z, d) :: q).map eL) none (some ((p.length : Nat) : Int))
    have c2 := cutD_len ((p ++ (z, d) :: q).map eL) (some (((p.length : Nat) : Int) + 1)) none
    rw [List.length_map] at c1 c2
    have hc1 : (cutD ((p ++ (z, d) :: q).map eL) none (some ((p.length : Nat) : Int))).length + (cutD ((p ++ (z, d) :: q).map eL) (some (((p.length : Nat) : Int) + 1)) none).length ≤ 100000 := by omega
    refine run_one (run_ret (EvD.is (ev_bin (od_cat hc1) (ev_slT (ev_var 0 rfl rfl) eo_none (eo_some (ev_ixL (ev_var 2 rfl rfl) (ev_bin od_sub (ev_cb ca_lenL c.len boot_len (eds_one (ev_var 2 rfl rfl))) ev_int) atI_lastN))) (ev_slT (ev_var 0 rfl rfl) (eo_some (ev_bin od_add (ev_ixL (ev_var 2 rfl rfl) (ev_bin od_sub (ev_cb ca_lenL c.len boot_len (eds_one (ev_var 2 rfl rfl))) ev_int) atI_lastN) ev_int)) eo_none)) ?_) rfl)
    rw [cutD_two, cutD_two', ← List.map_append]
    show PyData.tuple (((p ++ (z, d) :: q).take p.length ++ (p ++ (z, d) :: q).drop (p.length + 1)).map eL) = eH (bk z (p ++ (z, d) :: q))
    rw [bk_eq hq, List.take_left, show p.length + 1 = (p ++ [(z, d)]).length by simp, show p ++ (z, d) :: q = (p ++ [(z, d)]) ++ q by simp, List.drop_left]
    rfl
end

abbrev s_lw_stepped : Stmt := top 103
theorem sc_lw_stepped : FnScope ["_law_history_here", "_law_step"] ["_law_history_here", "_law_step"] (defScope s_lw_stepped) := ⟨rfl, rfl, rfl, by decide +kernel, rfl, by decide +kernel, by decide +kernel⟩
abbrev N_lw_stepped : List Str := ["_law_history_here", "_law_step"]
abbrev T_lw_stepped (P : Program) (w : World) (K : PySem.W.Frag) (mg : Str → Option Value) (base : Heap) : Prop := CalF P w K mg base "_law_stepped" 1 ["_law_history_here", "_law_step"] (spF (α := Hist × Step × Hist) (fun a => [eH a.1, eS a.2.1]) (fun a => a.1.length ≤ 100 ∧ Stp a.1 a.2.1 a.2.2) (fun a => eH a.2.2))
section
variable {P : Program} {w : World} {K : PySem.W.Frag} {mg : Str → Option Value} {base : Heap}
theorem c_lw_stepped (B : Blt mg) (G : Gls mg) (D : DefAt K mg "_law_stepped" s_lw_stepped)   : T_lw_stepped P w K mg base := by
  obtain ⟨f, fd, h1, F⟩ := D.ex
  refine ⟨f, fd, h1, F.kp, F.bindsN fun _ _ _ _ _ _ us hl => match us, hl with | [_, _], _ => rfl, ?_⟩
  refine fn_D F sc_lw_stepped (fun _ => rfl) (fun a => [.arg (eH a.1), .arg (eS a.2.1)]) (fun _ _ => as_ok ⟨aA, aA, trivial⟩) fun ⟨g, st, g2⟩ hp cdv A outer s H E hr => ?_
  try dsimp only at hp
  have c := ctx_of (P := P) (w := w) (K := K) (base := base) (f := f) (cdv := cdv) (outer := outer) (H := H) (E := E) B sc_lw_stepped.nd hr
  obtain ⟨hg, hst⟩ : g.length ≤ 100 ∧ Stp g st g2 := hp
  cases hst with
  | put p z d0 d q hd =>
    have c1 := cutD_len ((p ++ (z, d0) :: q).map eL) none (some ((p.length : Nat) : Int))
    have c2 := cutD_len ((p ++ (z, d0) :: q).map eL) (some (((p.length : Nat) : Int) + 1)) none
    rw [List.length_map] at c1 c2
    have hat : (p ++ (z, d0) :: q)[p.length]? = some (z, d0) := by simp
    have hc1 : (cutD ((p ++ (z, d0) :: q).map eL) none (some ((p.length : Nat) : Int))).length + [eL (z, d)].length ≤ 100000 := by show _ + 1 ≤ _; omega
    have hc2 : (cutD ((p ++ (z, d0) :: q).map eL) none (some ((p.length : Nat) : Int)) ++ [eL (z, d)]).length + (cutD ((p ++ (z, d0) :: q).map eL) (some (((p.length : Nat) : Int) + 1)) none).length ≤ 100000 := by rw [List.length_append]; show _ + 1 + _ ≤ _; omega
    refine run_cons (run_if (k := true) (EvT.is (et_cmp (od_eqS c) (ev_ixT (i := 0) (ds := [.str "put", eN p.length, eN d]) (ev_var 1 rfl rfl) ev_int rfl) ev_str) (by decide +kernel)) (fun _ => run_one (run_ret (EvD.is (ev_bin (od_cat hc2) (ev_bin (od_cat hc1) (ev_slT (ev_var 0 rfl rfl) eo_none (eo_some (ev_ixT (i := 1) (d := eN p.length) (ds := [.str "put", eN p.length, eN d]) (ev_var 1 rfl rfl) ev_int rfl))) (ev_tup (eds_one (ev_tup (eds_cons (ev_ixT (i := 0) (ds := [eN z, eN d0]) (ev_ixT (ev_var 0 rfl rfl) (ev_ixT (i := 1) (d := eN p.length) (ds := [.str "put", eN p.length, eN d]) (ev_var 1 rfl rfl) ev_int rfl) (atI_map (f := eL) hat)) ev_int rfl) (eds_one (ev_ixT (i := 2) (ds := [.str "put", eN p.length, eN d]) (ev_var 1 rfl rfl) ev_int rfl))))))) (ev_slT (ev_var 0 rfl rfl) (eo_some (ev_bin od_add (ev_ixT (i := 1) (d := eN p.length) (ds := [.str "put", eN p.length, eN d]) (ev_var 1 rfl rfl) ev_int rfl) ev_int)) eo_none)) ?_) rfl)) fun z => nomatch z)
    rw [cutD_two, cutD_two', List.take_left, show p.length + 1 = (p ++ [(z, d0)]).length by simp, show p ++ (z, d0) :: q = (p ++ [(z, d0)]) ++ q by simp, List.drop_left]
    show PyData.tuple (p.map eL ++ [eL (z, d)] ++ q.map eL) = PyData.tuple ((p ++ (z, d) :: q).map eL)
    simp
  | exch p l l2 q hl =>
    have c1 := cutD_len ((p ++ l :: l2 :: q).map eL) none (some ((p.length : Nat) : Int))
    have c2 := cutD_len ((p ++ l :: l2 :: q).map eL) (some (((p.length : Nat) : Int) + 2)) none
    rw [List.length_map] at c1 c2
    have hat : (p ++ l :: l2 :: q)[p.length]? = some l := by simp
    have hc1 : (cutD ((p ++ l :: l2 :: q).map eL) none (some ((p.length : Nat) : Int))).length + [eL l2, eL l].length ≤ 100000 := by show _ + 2 ≤ _; omega
    have hc2 : (cutD ((p ++ l :: l2 :: q).map eL) none (some ((p.length : Nat) : Int)) ++ [eL l2, eL l]).length + (cutD ((p ++ l :: l2 :: q).map eL) (some (((p.length : Nat) : Int) + 2)) none).length ≤ 100000 := by rw [List.length_append]; show _ + 2 + _ ≤ _; omega
    have hat2 : (p ++ l :: l2 :: q)[p.length + 1]? = some l2 := by rw [List.getElem?_append_right (by omega)]; simp
    refine run_cons (run_if (k := false) (EvT.is (et_cmp (od_eqS c) (ev_ixT (i := 0) (ds := [.str "exchange", eN p.length]) (ev_var 1 rfl rfl) ev_int rfl) ev_str) (by decide +kernel)) (fun z => nomatch z) fun _ => run_nil ?_)
    refine run_one (run_ret (EvD.is (ev_bin (od_cat hc2) (ev_bin (od_cat hc1) (ev_slT (ev_var 0 rfl rfl) eo_none (eo_some (ev_ixT (i := 1) (d := eN p.length) (ds := [.str "exchange", eN p.length]) (ev_var 1 rfl rfl) ev_int rfl))) (ev_tup (eds_cons (ev_ixT (ev_var 0 rfl rfl) (ev_bin od_add (ev_ixT (i := 1) (d := eN p.length) (ds := [.str "exchange", eN p.length]) (ev_var 1 rfl rfl) ev_int rfl) ev_int) (atI_map (f := eL) (i := p.length + 1) hat2)) (eds_one (ev_ixT (ev_var 0 rfl rfl) (ev_ixT (i := 1) (d := eN p.length) (ds := [.str "exchange", eN p.length]) (ev_var 1 rfl rfl) ev_int rfl) (atI_map (f := eL) hat)))))) (ev_slT (ev_var 0 rfl rfl) (eo_some (ev_bin od_add (ev_ixT (i := 1) (d := eN p.length) (ds := [.str "exchange", eN p.length]) (ev_var 1 rfl rfl) ev_int rfl) ev_int)) eo_none)) ?_) rfl)
    rw [cutD_two, cutD_two'', List.take_left, show p.length + 2 = (p ++ [l, l2]).length by simp, show p ++ l :: l2 :: q = (p ++ [l, l2]) ++ q by simp, List.drop_left]
    show PyData.tuple (p.map eL ++ [eL l2, eL l] ++ q.map eL) = PyData.tuple ((p ++ l2 :: l :: q).map eL)
    simp
end

abbrev s_lw_led : Stmt := top 106
theorem sc_lw_led : FnScope ["_law_machine_here", "_law_history_here", "_law_presses_here", "_law_press"] ["_law_machine_here", "_law_history_here", "_law_presses_here"] (defScope s_lw_led) := ⟨rfl, rfl, rfl, by decide +kernel, rfl, by decide +kernel, by decide +kernel⟩
abbrev N_lw_led : List Str := ["_law_machine_here", "_law_history_here", "_law_presses_here", "_law_press"]
abbrev T_lw_led (P : Program) (w : World) (K : PySem.W.Frag) (mg : Str → Option Value) (base : Heap) : Prop := CalF P w K mg base "_law_led" 2 ["_law_machine_here", "_law_history_here", "_law_presses_here"] (spF (α := Mach × Hist × List Press × Hist) (fun a => [eM a.1, eH a.2.1, .tuple (a.2.2.1.map ePr)]) (fun a => PrsOk a.2.1 a.2.2.1 a.2.2.2) (fun a => eH a.2.2.2))
section
variable {P : Program} {w : World} {K : PySem.W.Frag} {mg : Str → Option Value} {base : Heap}
theorem c_lw_led (B : Blt mg) (G : Gls mg) (D : DefAt K mg "_law_led" s_lw_led) (C_lw_pressed : T_lw_pressed P w K mg base)  : T_lw_led P w K mg base := by
  obtain ⟨f, fd, h1, F⟩ := D.ex
  refine ⟨f, fd, h1, F.kp, F.bindsN fun _ _ _ _ _ _ us hl => match us, hl with | [_, _, _], _ => rfl, ?_⟩
  refine fn_D F sc_lw_led (fun _ => rfl) (fun a => [.arg (eM a.1), .dat (eH a.2.1), .arg (.tuple (a.2.2.1.map ePr))]) (fun _ _ => as_ok ⟨aA, aD (imm_H _), aA, trivial⟩) fun ⟨m, g, ps, g2⟩ hp cdv A outer s H E hr => ?_
  try dsimp only at hp
  have c := ctx_of (P := P) (w := w) (K := K) (base := base) (f := f) (cdv := cdv) (outer := outer) (H := H) (E := E) B sc_lw_led.nd hr
  have hok : PrsOk g ps g2 := hp
  have main : ∀ (Pp : Pst) (g : Hist) (qs : List Press) (g2 : Hist), PrsOk g qs g2 → ForD (bX P w K mg base N_lw_led "_law_led" (defScope s_lw_led) f cdv A outer s H E) (forTg (nth (defBody s_lw_led) 0)) (forBd (nth (defBody s_lw_led) 0)) Pp (qs.map fun p => .one (.dat (ePr p))) [.arg (eM m), .dat (eH g), .arg (.tuple (ps.map ePr)), .any] [.arg (eM m), .dat (eH g2), .arg (.tuple (ps.map ePr)), .any] := fun Pp g qs g2 h => by
    induction h with
    | nil g => rfl
    | cons h1 h2 h3 ih => exact ⟨[3], _, _, g_name 3 c.nd, run_one (run_set 1 (.dat (eH (prs _ _))) c ⟨imm_H _, ev_call C_lw_pressed hr (_, _) ⟨h1, h2⟩ (eds_cons (ev_var 1 rfl rfl) (eds_one (ev_var 3 rfl rfl)))⟩ ⟨[3], rfl⟩), ih⟩
  refine run_cons (run_for c (items := ps.map fun p => .one (.dat (ePr p))) (S0 := [.arg (eM m), .dat (eH g), .arg (.tuple (ps.map ePr)), .any]) (S' := [.arg (eM m), .dat (eH g2), .arg (.tuple (ps.map ePr)), .any]) (dats_map ePr ps ▸ it_tup (ev_var 2 rfl rfl) (imms_map fun p _ => imm_Pr p)) (fun _ _ _ _ E => E) (main _ g ps g2 hok) ?_)
  exact run_one (run_ret (ev_var 1 rfl rfl) rfl)
end
end Ow
end

section
set_option linter.all false
set_option maxRecDepth 100000
set_option maxHeartbeats 4000000
set_option autoImplicit false
/-! Defs: the law, ways told right. -/
namespace Ow
open PySem L2 OwL Om
open PyProof.Rows (envOfC)

section
variable {X : Cx}
theorem od_inL (c : Ctx X) {x : PyData} {ds : List PyData} {n k : Nat} {b : Bool} (hx : Shp n x) (hd : Shp k (.list ds)) (he : (ds.any fun z => PyData.eqv z x) = b) (hn : n ≤ 64 := by decide) (hk : k ≤ 64 := by decide) : OpD X (compareOp .In) x (.list ds) (.bool b) :=
  ⟨_, op_inD c.hu, fun H y z Q ry rz q => ⟨_, _, ry.dp, rz.dp, hx.ok hn, hd.ok hk, he ▸ q _ H (Ex.refl H) (.bl _)⟩⟩
end
def prsAt (n : Nat) (g : Hist) (z : Nat) : List Press := (List.range n).map (.deed z) ++ if 0 < cnt z g then [.back z] else []
def prsOf (n : Nat) (g : Hist) (u : List Nat) : List Press := u.flatMap (prsAt n g)
theorem prsOf_snoc (n : Nat) (g : Hist) (u : List Nat) (z : Nat) : prsOf n g (u ++ [z]) = prsOf n g u ++ prsAt n g z := by
  unfold prsOf
  rw [List.flatMap_append, List.flatMap_cons, List.flatMap_nil, List.append_nil]
theorem prsAt_len (n : Nat) (g : Hist) (z : Nat) : (prsAt n g z).length ≤ n + 1 := by
  unfold prsAt
  rw [List.length_append, List.length_map, List.length_range]
  split <;> simp
theorem prsOf_len (n : Nat) (g : Hist) : ∀ u : List Nat, (prsOf n g u).length ≤ u.length * (n + 1)
  | [] => Nat.zero_le _
  | z :: u => by
    have := prsOf_len n g u
    have h := prsAt_len n g z
    unfold prsOf at this ⊢
    rw [List.flatMap_cons, List.length_append, List.length_cons, Nat.add_mul]
    omega
theorem prsOf_mem {n h : Nat} {g : Hist} {p : Press} (hp : p ∈ prsOf n g (List.range h)) : PrOk h n g p := by
  unfold prsOf at hp
  obtain ⟨z, hz, hp⟩ := List.mem_flatMap.mp hp
  have hz := List.mem_range.mp hz
  unfold prsAt at hp
  rcases List.mem_append.mp hp with k | k
  · obtain ⟨d, hd, rfl⟩ := List.mem_map.mp k
    exact ⟨hz, List.mem_range.mp hd⟩
  · by_cases e : 0 < cnt z g
    · rw [if_pos e] at k
      cases List.mem_singleton.mp k
      exact e
    · rw [if_neg e] at k
      cases k
theorem has_hand (z : Nat) (g : Hist) : ((g.map fun l => eN l.1).any fun y => PyData.eqv y (eN z)) = decide (0 < cnt z g) := by
  rw [List.any_map]
  rw [Bool.eq_iff_iff, List.any_eq_true, decide_eq_true_eq]
  constructor
  · rintro ⟨l, hl, k⟩
    have k : PyData.eqv (eN l.1) (eN z) = true := k
    rw [eqv_N] at k
    exact cnt_pos_mem hl (of_decide_eq_true k)
  · intro k
    obtain ⟨p, d, q, rfl, _⟩ := split_last k
    exact ⟨(z, d), by simp, by show PyData.eqv (eN z) (eN z) = true; rw [eqv_N]; simp⟩
theorem alike_counts {f : Nat → Nat → Nat} {s h : Nat} {g g' : Hist} (A : Alike f s g g') : counts h g = counts h g' := List.map_congr_left fun z _ => A.1 z
theorem alike_eTg {m : Mach} {h : Nat} {g g' : Hist} (A : Alike m.f m.s g g') : eTg m h g' = eTg m h g := by
  unfold eTg
  rw [← alike_counts A]
  refine eT_congr fun v _ => ?_
  unfold tab
  rw [A.2]
theorem eqv_T_refl (cs : List Nat) (b : List Nat → Nat) : PyData.eqv (eT cs b) (eT cs b) = true := by
  rw [eqv_T]
  simp
theorem eqv_H_refl (g : Hist) : PyData.eqv (eH g) (eH g) = true := by
  rw [eqv_H]
  simp


abbrev s_lw_presses : Stmt := top 102
theorem sc_lw_presses : FnScope ["_law_machine_here", "_law_hands", "_law_history_here", "_law_limit", "_law_found", "_law_hand", "_law_deed", "_law_one"] ["_law_machine_here", "_law_hands", "_law_history_here", "_law_limit"] (defScope s_lw_presses) := ⟨rfl, rfl, rfl, by decide +kernel, rfl, by decide +kernel, by decide +kernel⟩
abbrev N_lw_presses : List Str := ["_law_machine_here", "_law_hands", "_law_history_here", "_law_limit", "_law_found", "_law_hand", "_law_deed", "_law_one"]
abbrev T_lw_presses (P : Program) (w : World) (K : PySem.W.Frag) (mg : Str → Option Value) (base : Heap) : Prop := CalF P w K mg base "_law_presses" 1 ["_law_machine_here", "_law_hands", "_law_history_here", "_law_limit"] (spN (α := Mach × Nat × Hist) (fun a => [eM a.1, eN a.2.1, eH a.2.2, .int 99]) (fun a => VM a.1 ∧ a.2.1 ≤ 4 ∧ a.2.2.length ≤ 20) (fun a => (prsOf a.1.ds.length a.2.2 (List.range a.2.1)).map ePr))
section
variable {P : Program} {w : World} {K : PySem.W.Frag} {mg : Str → Option Value} {base : Heap}
theorem c_lw_presses (B : Blt mg) (G : Gls mg) (D : DefAt K mg "_law_presses" s_lw_presses)   : T_lw_presses P w K mg base := by
  obtain ⟨f, fd, h1, F⟩ := D.ex
  refine ⟨f, fd, h1, F.kp, F.bindsN fun _ _ _ _ _ _ us hl => match us, hl with | [_, _, _, _], _ => rfl, ?_⟩
  refine fn_N F sc_lw_presses (fun _ => rfl) (fun a => [.arg (eM a.1), .arg (eN a.2.1), .arg (eH a.2.2), .arg (.int 99)]) (fun _ _ => as_ok ⟨aA, aA, aA, aA, trivial⟩) fun ⟨m, h, g⟩ hp cdv A outer s H E hr => ?_
  try dsimp only at hp
  have c := ctx_of (P := P) (w := w) (K := K) (base := base) (f := f) (cdv := cdv) (outer := outer) (H := H) (E := E) B sc_lw_presses.nd hr
  obtain ⟨hm, hh, hg⟩ : VM m ∧ h ≤ 4 ∧ g.length ≤ 20 := hp
  have d6 := hm.d6
  refine run_cons (run_set 4 (.lst []) c ⟨rfl, ev_lst eds_nil⟩ ?_)
  refine run_cons (run_for c (items := (List.range h).map fun z => .one (.dat (eN z))) (S0 := [.arg (eM m), .arg (eN h), .arg (eH g), .arg (.int 99), .lst ((prsOf m.ds.length g []).map ePr), .any, .any, .any]) (S' := [.arg (eM m), .arg (eN h), .arg (eH g), .arg (.int 99), .lst ((prsOf m.ds.length g (List.range h)).map ePr), .any, .any, .any]) (rng_N h ▸ it_range c (ev_var 1 rfl rfl) (by omega) (by omega)) (fun _ _ _ _ E => E) (for_run (fun z => .one (.dat (eN z))) (fun u => [.arg (eM m), .arg (eN h), .arg (eH g), .arg (.int 99), .lst ((prsOf m.ds.length g u).map ePr), .any, .any, .any]) _ fun u z v e => ⟨[5], _, g_name 5 c.nd, ?_⟩) ?_)
  · have hul : u.length ≤ 4 := by have := congrArg List.length e; simp at this; omega
    have hpl : (prsOf m.ds.length g u).length ≤ 28 := Nat.le_trans (prsOf_len _ g u) (Nat.le_trans (Nat.mul_le_mul hul (show m.ds.length + 1 ≤ 7 by omega)) (by decide))
    refine run_cons (run_if (k := true) (EvT.is (et_cmp od_lt (ev_cb ca_lenT c.len boot_len (eds_one (ev_var 2 rfl rfl))) (ev_var 3 rfl rfl)) (by rw [List.length_map]; simp; omega)) (fun _ => run_one (run_set 4 (.lst ((prsOf m.ds.length g u ++ (List.range m.ds.length).map (Press.deed z)).map ePr)) c ⟨imms_map fun p _ => imm_Pr p, EvN.is (ev_binN (on_cat (by rw [List.length_map, List.length_map, List.length_range]; omega)) (ev_var 4 rfl rfl) (EvN.toD (ev_lca c [("_law_deed", 6)] rfl (List.range m.ds.length) (fun d => .one (.dat (eN d))) [6] (fun d => [_, _, _, _, _, .dat (eN z), .dat (eN d), _]) (fun d => ePr (.deed z d)) (it_range c (n := ((m.ds.length : Nat) : Int)) (EvD.is (ev_cb ca_lenT c.len boot_len (eds_one (ev_ixT (i := 1) (ev_var 0 rfl rfl) ev_int rfl))) (by rw [List.length_map])) (by omega) (by omega)) (rng_N _) rfl (by rw [List.length_range]; omega) (by decide) (fun x hx s H C cl fp => g_name 6 c.nd) fun d hd => ⟨rfl, fun s H C cl fp => ev_tup (eds_cons ev_str (eds_cons (ev_var 5 rfl rfl) (eds_one (ev_var 6 rfl rfl))))⟩))) (by rw [List.map_append, List.map_map]; rfl)⟩ ?_)) fun z => nomatch z)
    refine run_one (run_if (k := decide (0 < cnt z g)) (et_cmp (od_inL c (shp_N z 0) (shp_lmap (l := g) (f := fun l => eN l.1) fun l _ => shp_N l.1 0) (has_hand z g)) (ev_var 5 rfl rfl) (EvN.toD (ev_lca c [("_law_one", 7), ("_law_deed", 6)] rfl g (fun l => .one (.dat (eL l))) [7, 6] (fun l => [_, _, _, _, _, _, .dat (eN l.2), .dat (eN l.1)]) (fun l => eN l.1) (it_tup (ev_var 2 rfl rfl) (imms_L g)) (dats_map eL g) rfl (by omega) (by decide) (fun x hx s H C cl fp => GTo.ofTup (g_tup2 7 6 c.blk)) fun l hl => ⟨rfl, fun s H C cl fp => ev_var 7 rfl rfl⟩))) (fun k => ?_) fun k => ?_)
    · refine run_one (run_set 4 (.lst ((prsOf m.ds.length g (u ++ [z])).map ePr)) c ⟨imms_map fun p _ => imm_Pr p, EvN.is (ev_binN (on_cat (by rw [List.length_map, List.length_append, List.length_map, List.length_range]; show _ + 1 ≤ _; omega)) (ev_var 4 rfl rfl) (EvN.toD (ev_lst (eds_one (ev_tup (eds_cons ev_str (eds_one (ev_var 5 rfl rfl)))))))) ?_⟩ ⟨[5], rfl⟩)
      rw [prsOf_snoc]
      unfold prsAt
      rw [if_pos (of_decide_eq_true k), ← List.append_assoc, List.map_append (l₂ := [Press.back z])]
      rfl
    · refine run_nil ⟨[5], ?_⟩
      rw [prsOf_snoc]
      unfold prsAt
      rw [if_neg (of_decide_eq_false k), List.append_nil]
      rfl
  · exact run_one (run_retOwn 4 rfl rfl)
end

abbrev T_lw_far (P : Program) (w : World) (K : PySem.W.Frag) (mg : Str → Option Value) (base : Heap) : Prop := CalF P w K mg base "_law_far" 1 ["_law_hands", "_law_one", "_law_other_here"] (spF (α := Nat × Hist × Hist) (fun a => [eN a.1, eH a.2.1, eH a.2.2]) (fun a => a.1 ≤ 4 ∧ a.2.1.length ≤ 20 ∧ a.2.2.length ≤ 20 ∧ (∀ l ∈ a.2.1, l.1 < a.1) ∧ (∀ l ∈ a.2.2, l.1 < a.1) ∧ ∀ z, cnt z a.2.1 = cnt z a.2.2) fun a => eN (far a.2.1 a.2.2))


abbrev s_lw_way_right : Stmt := top 104
theorem sc_lw_way_right : FnScope ["_law_machine_here", "_law_hands", "_law_one", "_law_other_here", "_law_steps", "_law_here", "_law_table_here", "_law_step"] ["_law_machine_here", "_law_hands", "_law_one", "_law_other_here", "_law_steps"] (defScope s_lw_way_right) := ⟨rfl, rfl, rfl, by decide +kernel, rfl, by decide +kernel, by decide +kernel⟩
abbrev N_lw_way_right : List Str := ["_law_machine_here", "_law_hands", "_law_one", "_law_other_here", "_law_steps", "_law_here", "_law_table_here", "_law_step"]
abbrev T_lw_way_right (P : Program) (w : World) (K : PySem.W.Frag) (mg : Str → Option Value) (base : Heap) : Prop := CalF P w K mg base "_law_way_right" 3 ["_law_machine_here", "_law_hands", "_law_one", "_law_other_here", "_law_steps"] (spF (α := Mach × Nat × Hist × Hist × List Step) (fun a => [eM a.1, eN a.2.1, eH a.2.2.1, eH a.2.2.2.1, .tuple (a.2.2.2.2.map eS)]) (fun a => VM a.1 ∧ VHd a.2.1 ∧ VH a.2.1 a.1.ds.length a.2.2.1 ∧ VH a.2.1 a.1.ds.length a.2.2.2.1 ∧ WayOk a.1 a.2.1 a.2.2.1 a.2.2.2.1 a.2.2.2.2) (fun a => .bool true))
section
variable {P : Program} {w : World} {K : PySem.W.Frag} {mg : Str → Option Value} {base : Heap}
theorem c_lw_way_right (B : Blt mg) (G : Gls mg) (D : DefAt K mg "_law_way_right" s_lw_way_right) (C_lw_table : T_lw_table P w K mg base) (C_lw_stepped : T_lw_stepped P w K mg base) (C_lw_far : T_lw_far P w K mg base)  : T_lw_way_right P w K mg base := by
  obtain ⟨f, fd, h1, F⟩ := D.ex
  refine ⟨f, fd, h1, F.kp, F.bindsN fun _ _ _ _ _ _ us hl => match us, hl with | [_, _, _, _, _], _ => rfl, ?_⟩
  refine fn_D F sc_lw_way_right (fun _ => rfl) (fun a => [.arg (eM a.1), .arg (eN a.2.1), .arg (eH a.2.2.1), .arg (eH a.2.2.2.1), .arg (.tuple (a.2.2.2.2.map eS))]) (fun _ _ => as_ok ⟨aA, aA, aA, aA, aA, trivial⟩) fun ⟨m, h, g, g2, ss⟩ hp cdv A outer s H E hr => ?_
  try dsimp only at hp
  have c := ctx_of (P := P) (w := w) (K := K) (base := base) (f := f) (cdv := cdv) (outer := outer) (H := H) (E := E) B sc_lw_way_right.nd hr
  obtain ⟨hm, hh, hg, hg2, hL, hf⟩ : VM m ∧ VHd h ∧ VH h m.ds.length g ∧ VH h m.ds.length g2 ∧ WayOk m h g g2 ss := hp
  refine run_cons (run_par 5 6 (.dat (eH g)) (.dat (eTg m h g)) c ⟨imm_H _, ev_var 2 rfl rfl⟩ ⟨imm_T _ _, ev_call C_lw_table hr (m, h, g) ⟨hm, hh, hg⟩ (eds_cons (ev_var 0 rfl rfl) (eds_cons (ev_var 1 rfl rfl) (eds_one (ev_var 2 rfl rfl))))⟩ (by decide) ?_)
  have main : ∀ (Pp : Pst) (gg : Hist) (qs : List Step) (gg2 : Hist), Lead m.f m.s h m.ds.length gg qs gg2 → VH h m.ds.length gg → eTg m h gg = eTg m h g → ForD (bX P w K mg base N_lw_way_right "_law_way_right" (defScope s_lw_way_right) f cdv A outer s H E) (forTg (nth (defBody s_lw_way_right) 1)) (forBd (nth (defBody s_lw_way_right) 1)) Pp (qs.map fun p => .one (.dat (eS p))) [.arg (eM m), .arg (eN h), .arg (eH g), .arg (eH g2), .arg (.tuple (ss.map eS)), .dat (eH gg), .dat (eTg m h g), .any] [.arg (eM m), .arg (eN h), .arg (eH g), .arg (eH g2), .arg (.tuple (ss.map eS)), .dat (eH gg2), .dat (eTg m h g), .any] := fun Pp gg qs gg2 hLd => by
    induction hLd with
    | nil k =>
      intro _ _
      rfl
    | @cons k k' k'' st r h1 h2 h3 _ ih =>
      intro hv he
      have he' : eTg m h k' = eTg m h g := (alike_eTg h2).trans he
      have hkl := hv.1
      refine ⟨[7], _, _, g_name 7 c.nd, ?_, ih h3 he'⟩
      have rest : RunS (bX P w K mg base N_lw_way_right "_law_way_right" (defScope s_lw_way_right) f cdv A outer s H E) ((forBd (nth (defBody s_lw_way_right) 1)).drop 1) [.arg (eM m), .arg (eN h), .arg (eH g), .arg (eH g2), .arg (.tuple (ss.map eS)), .dat (eH k), .dat (eTg m h g), .dat (eS st)] { Pp with nx := fun S' => ∃ vs, wipeS S' vs = [.arg (eM m), .arg (eN h), .arg (eH g), .arg (eH g2), .arg (.tuple (ss.map eS)), .dat (eH k'), .dat (eTg m h g), .any] } := by
        refine run_cons (run_set 5 (.dat (eH k')) c ⟨imm_H _, ev_call C_lw_stepped hr (k, st, k') ⟨by show k.length ≤ 100; omega, h1⟩ (eds_cons (ev_var 5 rfl rfl) (eds_one (ev_var 7 rfl rfl)))⟩ ?_)
        exact run_one (run_if (k := false) (et_cmp (od_neB c (shp_T (counts h g) (tab m g)) (shp_T (counts h g) (tab m g)) (eqv_T_refl _ _)) (EvD.is (ev_call C_lw_table hr (m, h, k') ⟨hm, hh, h3⟩ (eds_cons (ev_var 0 rfl rfl) (eds_cons (ev_var 1 rfl rfl) (eds_one (ev_var 5 rfl rfl))))) he') (ev_var 6 rfl rfl)) (fun z => nomatch z) fun _ => run_nil ⟨[7], rfl⟩)
      cases h1 with
      | put p z d0 d q hd =>
        have hat : (p ++ (z, d0) :: q)[p.length]? = some (z, d0) := by simp
        refine run_cons (run_if (k := false) (et_w (ew_or (k := false) (k' := false) (et_w (ew_and (k := false) (k' := false) (EvT.is (et_cmp (od_eqS c) (ev_ixT (i := 0) (ds := [.str "put", eN p.length, eN d]) (ev_var 7 rfl rfl) ev_int rfl) ev_str) (by decide +kernel)) fun z => nomatch z)) fun _ => ew_or1 (et_w (ew_and (k := true) (k' := false) (EvT.is (et_cmp (od_eqS c) (ev_ixT (i := 0) (ds := [.str "put", eN p.length, eN d]) (ev_var 7 rfl rfl) ev_int rfl) ev_str) (by decide +kernel)) fun _ => ew_and1 (EvT.is (et_cmp (od_eqi c) (ev_ixT (i := 1) (ds := [eN z, eN d0]) (ev_ixT (ev_var 5 rfl rfl) (ev_ixT (i := 1) (d := eN p.length) (ds := [.str "put", eN p.length, eN d]) (ev_var 7 rfl rfl) ev_int rfl) (atI_map (f := eL) hat)) ev_int rfl) (ev_ixT (i := 2) (ds := [.str "put", eN p.length, eN d]) (ev_var 7 rfl rfl) ev_int rfl)) (by rw [eqN]; simpa using hd)))))) (fun z => nomatch z) fun _ => run_nil rest)
      | exch p l l2 q hl =>
        have hat : (p ++ l :: l2 :: q)[p.length]? = some l := by simp
        have hat2 : (p ++ l :: l2 :: q)[p.length + 1]? = some l2 := by rw [List.getElem?_append_right (by omega)]; simp
        refine run_cons (run_if (k := false) (et_w (ew_or (k := false) (k' := false) (et_w (ew_and (k := true) (k' := false) (EvT.is (et_cmp (od_eqS c) (ev_ixT (i := 0) (ds := [.str "exchange", eN p.length]) (ev_var 7 rfl rfl) ev_int rfl) ev_str) (by decide +kernel)) fun _ => ew_and1 (EvT.is (et_cmp (od_eqi c) (ev_ixT (i := 0) (ds := [eN l.1, eN l.2]) (ev_ixT (ev_var 5 rfl rfl) (ev_ixT (i := 1) (d := eN p.length) (ds := [.str "exchange", eN p.length]) (ev_var 7 rfl rfl) ev_int rfl) (atI_map (f := eL) hat)) ev_int rfl) (ev_ixT (i := 0) (ds := [eN l2.1, eN l2.2]) (ev_ixT (ev_var 5 rfl rfl) (ev_bin od_add (ev_ixT (i := 1) (d := eN p.length) (ds := [.str "exchange", eN p.length]) (ev_var 7 rfl rfl) ev_int rfl) ev_int) (atI_map (f := eL) (i := p.length + 1) hat2)) ev_int rfl)) (by rw [eqN]; simpa using hl)))) fun _ => ew_or1 (et_w (ew_and (k := false) (k' := false) (EvT.is (et_cmp (od_eqS c) (ev_ixT (i := 0) (ds := [.str "exchange", eN p.length]) (ev_var 7 rfl rfl) ev_int rfl) ev_str) (by decide +kernel)) fun z => nomatch z)))) (fun z => nomatch z) fun _ => run_nil rest)
  refine run_cons (run_for c (items := ss.map fun p => .one (.dat (eS p))) (dats_map eS ss ▸ it_tup (ev_var 4 rfl rfl) (imms_S ss)) (fun _ _ _ _ E => E) (main _ g ss g2 hL hg rfl) ?_)
  have hA := hL.alike
  exact run_one (run_ret (ev_and (k := true) (k' := true) (ev_cmp (od_eqB c (shp_H _) (shp_H _) (eqv_H_refl g2)) (ev_var 5 rfl rfl) (ev_var 3 rfl rfl)) fun _ => ev_one (EvD.is (ev_cmp (od_eqi c) (ev_cb ca_lenT c.len boot_len (eds_one (ev_var 4 rfl rfl))) (ev_call C_lw_far hr (h, g, g2) ⟨hh.2, by have := hg.1; show g.length ≤ 20; omega, by have := hg2.1; show g2.length ≤ 20; omega, fun l hl => (hg.2 l hl).1, fun l hl => (hg2.2 l hl).1, hA.1⟩ (eds_cons (ev_var 1 rfl rfl) (eds_cons (ev_var 2 rfl rfl) (eds_one (ev_var 3 rfl rfl)))))) (bool_t (by rw [List.length_map, hf]; simp)))) rfl)
end
end Ow
end

section
set_option linter.all false
set_option maxRecDepth 100000
set_option maxHeartbeats 4000000
set_option autoImplicit false
/-! Defs: the law, what is told is right. -/
namespace Ow
open PySem L2 OwL Om
open PyProof.Rows (envOfC)

theorem VH.snoc' {h n : Nat} {g : Hist} {z d : Nat} (v : VH h n g) (hz : z < h) (hd : d < n) (hl : g.length + 1 ≤ 10) : VH h n (g ++ [(z, d)]) := ⟨by rw [List.length_append]; exact hl, fun l hl => by
  rcases List.mem_append.mp hl with w | w
  · exact v.2 l w
  · cases List.mem_singleton.mp w
    exact ⟨hz, hd⟩⟩
theorem prs_VH {h n : Nat} {g : Hist} {p : Press} (v : VH h n g) (hp : PrOk h n g p) (hl : g.length + 1 ≤ 10) : VH h n (prs g p) ∧ (prs g p).length ≤ g.length + 1 ∧ PrPre g p := by
  cases p with
  | deed z d => exact ⟨v.snoc' hp.1 hp.2 hl, by show (g ++ [(z, d)]).length ≤ _; rw [List.length_append]; exact Nat.le_refl _, trivial⟩
  | back z =>
    have k : 0 < cnt z g := hp
    exact ⟨bk_VH k v, by have := bk_len k; show (bk z g).length ≤ _; omega, k⟩
theorem alike_seen {m : Mach} {h : Nat} {g g' : Hist} (A : Alike m.f m.s g g') : tab m g' (counts h g') = tab m g (counts h g) := by
  rw [← alike_counts A]
  unfold tab
  rw [A.2]
theorem prok_alike {f : Nat → Nat → Nat} {s h n : Nat} {g g' : Hist} (A : Alike f s g g') {p : Press} (hp : PrOk h n g p) : PrOk h n g' p := by
  cases p with
  | deed z d => exact hp
  | back z =>
    have k : 0 < cnt z g := hp
    show 0 < cnt z g'
    rw [← A.1]
    exact k


abbrev s_lw_apart0 : Stmt := top 109
theorem sc_lw_apart0 : FnScope ["_law_machine_here", "_law_hands", "_law_one", "_law_other_here", "_law_many", "_law_press"] ["_law_machine_here", "_law_hands", "_law_one", "_law_other_here", "_law_many"] (defScope s_lw_apart0) := ⟨rfl, rfl, rfl, by decide +kernel, rfl, by decide +kernel, by decide +kernel⟩
abbrev N_lw_apart0 : List Str := ["_law_machine_here", "_law_hands", "_law_one", "_law_other_here", "_law_many", "_law_press"]
abbrev T_lw_apart0 (P : Program) (w : World) (K : PySem.W.Frag) (mg : Str → Option Value) (base : Heap) : Prop := CalF P w K mg base "_law_apart" 3 ["_law_machine_here", "_law_hands", "_law_one", "_law_other_here", "_law_many"] (spF (α := Mach × Nat × Hist × Hist) (fun a => [eM a.1, eN a.2.1, eH a.2.2.1, eH a.2.2.2, .int 0]) (fun a => VM a.1 ∧ VHd a.2.1 ∧ VH a.2.1 a.1.ds.length a.2.2.1 ∧ VH a.2.1 a.1.ds.length a.2.2.2 ∧ Alike a.1.f a.1.s a.2.2.1 a.2.2.2 ∧ a.2.2.1.length + 0 ≤ 10) (fun a => .bool false))
section
variable {P : Program} {w : World} {K : PySem.W.Frag} {mg : Str → Option Value} {base : Heap}
theorem c_lw_apart0 (B : Blt mg) (G : Gls mg) (D : DefAt K mg "_law_apart" s_lw_apart0) (C_lw_seen : T_lw_seen P w K mg base)  : T_lw_apart0 P w K mg base := by
  obtain ⟨f, fd, h1, F⟩ := D.ex
  refine ⟨f, fd, h1, F.kp, F.bindsN fun _ _ _ _ _ _ us hl => match us, hl with | [_, _, _, _, _], _ => rfl, ?_⟩
  refine fn_D F sc_lw_apart0 (fun _ => rfl) (fun a => [.arg (eM a.1), .arg (eN a.2.1), .arg (eH a.2.2.1), .arg (eH a.2.2.2), .arg (.int 0)]) (fun _ _ => as_ok ⟨aA, aA, aA, aA, aA, trivial⟩) fun ⟨m, h, g, g2⟩ hp cdv A outer s H E hr => ?_
  try dsimp only at hp
  have c := ctx_of (P := P) (w := w) (K := K) (base := base) (f := f) (cdv := cdv) (outer := outer) (H := H) (E := E) B sc_lw_apart0.nd hr
  obtain ⟨hm, hh, hg, hg2, hA, hl⟩ : VM m ∧ VHd h ∧ VH h m.ds.length g ∧ VH h m.ds.length g2 ∧ Alike m.f m.s g g2 ∧ g.length + 0 ≤ 10 := hp
  have d6 := hm.d6
  refine run_cons (run_if (k := false) (EvT.is (et_cmp (od_nei c) (ev_call C_lw_seen hr (m, h, g) ⟨hm, hh, hg⟩ (eds_cons (ev_var 0 rfl rfl) (eds_cons (ev_var 1 rfl rfl) (eds_one (ev_var 2 rfl rfl))))) (ev_call C_lw_seen hr (m, h, g2) ⟨hm, hh, hg2⟩ (eds_cons (ev_var 0 rfl rfl) (eds_cons (ev_var 1 rfl rfl) (eds_one (ev_var 3 rfl rfl)))))) (by rw [alike_seen hA]; simp)) (fun z => nomatch z) fun _ => run_nil ?_)
  exact run_cons (run_if (k := true) (EvT.is (et_cmp (od_eqi c) (ev_var 4 rfl rfl) ev_int) rfl) (fun _ => run_one (run_ret ev_bool rfl)) fun z => nomatch z)
end

abbrev s_lw_apart1 : Stmt := top 109
theorem sc_lw_apart1 : FnScope ["_law_machine_here", "_law_hands", "_law_one", "_law_other_here", "_law_many", "_law_press"] ["_law_machine_here", "_law_hands", "_law_one", "_law_other_here", "_law_many"] (defScope s_lw_apart1) := ⟨rfl, rfl, rfl, by decide +kernel, rfl, by decide +kernel, by decide +kernel⟩
abbrev N_lw_apart1 : List Str := ["_law_machine_here", "_law_hands", "_law_one", "_law_other_here", "_law_many", "_law_press"]
abbrev T_lw_apart1 (P : Program) (w : World) (K : PySem.W.Frag) (mg : Str → Option Value) (base : Heap) : Prop := CalF P w K mg base "_law_apart" 4 ["_law_machine_here", "_law_hands", "_law_one", "_law_other_here", "_law_many"] (spF (α := Mach × Nat × Hist × Hist) (fun a => [eM a.1, eN a.2.1, eH a.2.2.1, eH a.2.2.2, .int 1]) (fun a => VM a.1 ∧ VHd a.2.1 ∧ VH a.2.1 a.1.ds.length a.2.2.1 ∧ VH a.2.1 a.1.ds.length a.2.2.2 ∧ Alike a.1.f a.1.s a.2.2.1 a.2.2.2 ∧ a.2.2.1.length + 1 ≤ 10) (fun a => .bool false))
section
variable {P : Program} {w : World} {K : PySem.W.Frag} {mg : Str → Option Value} {base : Heap}
theorem c_lw_apart1 (B : Blt mg) (G : Gls mg) (D : DefAt K mg "_law_apart" s_lw_apart1) (C_lw_seen : T_lw_seen P w K mg base) (C_lw_presses : T_lw_presses P w K mg base) (C_lw_pressed : T_lw_pressed P w K mg base) (C_lw_apart0 : T_lw_apart0 P w K mg base)  : T_lw_apart1 P w K mg base := by
  obtain ⟨f, fd, h1, F⟩ := D.ex
  refine ⟨f, fd, h1, F.kp, F.bindsN fun _ _ _ _ _ _ us hl => match us, hl with | [_, _, _, _, _], _ => rfl, ?_⟩
  refine fn_D F sc_lw_apart1 (fun _ => rfl) (fun a => [.arg (eM a.1), .arg (eN a.2.1), .arg (eH a.2.2.1), .arg (eH a.2.2.2), .arg (.int 1)]) (fun _ _ => as_ok ⟨aA, aA, aA, aA, aA, trivial⟩) fun ⟨m, h, g, g2⟩ hp cdv A outer s H E hr => ?_
  try dsimp only at hp
  have c := ctx_of (P := P) (w := w) (K := K) (base := base) (f := f) (cdv := cdv) (outer := outer) (H := H) (E := E) B sc_lw_apart1.nd hr
  obtain ⟨hm, hh, hg, hg2, hA, hl⟩ : VM m ∧ VHd h ∧ VH h m.ds.length g ∧ VH h m.ds.length g2 ∧ Alike m.f m.s g g2 ∧ g.length + 1 ≤ 10 := hp
  have d6 := hm.d6
  refine run_cons (run_if (k := false) (EvT.is (et_cmp (od_nei c) (ev_call C_lw_seen hr (m, h, g) ⟨hm, hh, hg⟩ (eds_cons (ev_var 0 rfl rfl) (eds_cons (ev_var 1 rfl rfl) (eds_one (ev_var 2 rfl rfl))))) (ev_call C_lw_seen hr (m, h, g2) ⟨hm, hh, hg2⟩ (eds_cons (ev_var 0 rfl rfl) (eds_cons (ev_var 1 rfl rfl) (eds_one (ev_var 3 rfl rfl)))))) (by rw [alike_seen hA]; simp)) (fun z => nomatch z) fun _ => run_nil ?_)
  refine run_cons (run_if (k := false) (EvT.is (et_cmp (od_eqi c) (ev_var 4 rfl rfl) ev_int) rfl) (fun z => nomatch z) fun _ => run_nil ?_)
  have hpl : (prsOf m.ds.length g (List.range h)).length ≤ 28 := Nat.le_trans (prsOf_len _ g _) (Nat.le_trans (Nat.mul_le_mul (show (List.range h).length ≤ 4 by rw [List.length_range]; exact hh.2) (show m.ds.length + 1 ≤ 7 by omega)) (by decide))
  refine run_cons (run_for c (items := (prsOf m.ds.length g (List.range h)).map fun p => .one (.dat (ePr p))) (S0 := [.arg (eM m), .arg (eN h), .arg (eH g), .arg (eH g2), .arg (.int 1), .any]) (S' := [.arg (eM m), .arg (eN h), .arg (eH g), .arg (eH g2), .arg (.int 1), .any]) (dats_map ePr _ ▸ it_new (ev_callN C_lw_presses hr (m, h, g) ⟨hm, hh.2, by have := hg.1; show g.length ≤ 20; omega⟩ (eds_cons (ev_var 0 rfl rfl) (eds_cons (ev_var 1 rfl rfl) (eds_cons (ev_var 2 rfl rfl) (eds_one ev_int))))) (imms_map fun p _ => imm_Pr p)) (fun _ _ _ _ E => E) (for_run (fun p => .one (.dat (ePr p))) (fun _ => [.arg (eM m), .arg (eN h), .arg (eH g), .arg (eH g2), .arg (.int 1), .any]) _ fun u pr v e => ⟨[5], _, g_name 5 c.nd, ?_⟩) ?_)
  · have hok := prsOf_mem (h := h) (by rw [← e]; simp : pr ∈ prsOf m.ds.length g (List.range h))
    have hgl : g2.length = g.length := by
      have s1 : ∀ k : Hist, (∀ l ∈ k, l.1 < h) → (counts h k).sum = k.length := fun k => sum_len
      rw [← s1 g fun l hl => (hg.2 l hl).1, ← s1 g2 fun l hl => (hg2.2 l hl).1, alike_counts hA]
    obtain ⟨k1, k2, k3⟩ := prs_VH hg hok (by omega)
    obtain ⟨q1, q2, q3⟩ := prs_VH hg2 (prok_alike hA hok) (by omega)
    exact run_one (run_if (k := false) (et_val (ev_call C_lw_apart0 hr (m, h, prs g pr, prs g2 pr) ⟨hm, hh, k1, q1, prs_alike hA hok, by show (prs g pr).length + 0 ≤ 10; omega⟩ (eds_cons (ev_var 0 rfl rfl) (eds_cons (ev_var 1 rfl rfl) (eds_cons (ev_call C_lw_pressed hr (g, pr) ⟨by have := hg.1; show g.length ≤ 100; omega, k3⟩ (eds_cons (ev_var 2 rfl rfl) (eds_one (ev_var 5 rfl rfl)))) (eds_cons (ev_call C_lw_pressed hr (g2, pr) ⟨by have := hg2.1; show g2.length ≤ 100; omega, q3⟩ (eds_cons (ev_var 3 rfl rfl) (eds_one (ev_var 5 rfl rfl)))) (eds_one (EvD.is (ev_bin od_sub (ev_var 4 rfl rfl) ev_int) rfl)))))))) (fun z => nomatch z) fun _ => run_nil ⟨[5], rfl⟩)
  · exact run_one (run_ret ev_bool rfl)
end

abbrev s_lw_apart2 : Stmt := top 109
theorem sc_lw_apart2 : FnScope ["_law_machine_here", "_law_hands", "_law_one", "_law_other_here", "_law_many", "_law_press"] ["_law_machine_here", "_law_hands", "_law_one", "_law_other_here", "_law_many"] (defScope s_lw_apart2) := ⟨rfl, rfl, rfl, by decide +kernel, rfl, by decide +kernel, by decide +kernel⟩
abbrev N_lw_apart2 : List Str := ["_law_machine_here", "_law_hands", "_law_one", "_law_other_here", "_law_many", "_law_press"]
abbrev T_lw_apart2 (P : Program) (w : World) (K : PySem.W.Frag) (mg : Str → Option Value) (base : Heap) : Prop := CalF P w K mg base "_law_apart" 5 ["_law_machine_here", "_law_hands", "_law_one", "_law_other_here", "_law_many"] (spF (α := Mach × Nat × Hist × Hist) (fun a => [eM a.1, eN a.2.1, eH a.2.2.1, eH a.2.2.2, .int 2]) (fun a => VM a.1 ∧ VHd a.2.1 ∧ VH a.2.1 a.1.ds.length a.2.2.1 ∧ VH a.2.1 a.1.ds.length a.2.2.2 ∧ Alike a.1.f a.1.s a.2.2.1 a.2.2.2 ∧ a.2.2.1.length + 2 ≤ 10) (fun a => .bool false))
section
variable {P : Program} {w : World} {K : PySem.W.Frag} {mg : Str → Option Value} {base : Heap}
theorem c_lw_apart2 (B : Blt mg) (G : Gls mg) (D : DefAt K mg "_law_apart" s_lw_apart2) (C_lw_seen : T_lw_seen P w K mg base) (C_lw_presses : T_lw_presses P w K mg base) (C_lw_pressed : T_lw_pressed P w K mg base) (C_lw_apart1 : T_lw_apart1 P w K mg base)  : T_lw_apart2 P w K mg base := by
  obtain ⟨f, fd, h1, F⟩ := D.ex
  refine ⟨f, fd, h1, F.kp, F.bindsN fun _ _ _ _ _ _ us hl => match us, hl with | [_, _, _, _, _], _ => rfl, ?_⟩
  refine fn_D F sc_lw_apart2 (fun _ => rfl) (fun a => [.arg (eM a.1), .arg (eN a.2.1), .arg (eH a.2.2.1), .arg (eH a.2.2.2), .arg (.int 2)]) (fun _ _ => as_ok ⟨aA, aA, aA, aA, aA, trivial⟩) fun ⟨m, h, g, g2⟩ hp cdv A outer s H E hr => ?_
  try dsimp only at hp
  have c := ctx_of (P := P) (w := w) (K := K) (base := base) (f := f) (cdv := cdv) (outer := outer) (H := H) (E := E) B sc_lw_apart2.nd hr
  obtain ⟨hm, hh, hg, hg2, hA, hl⟩ : VM m ∧ VHd h ∧ VH h m.ds.length g ∧ VH h m.ds.length g2 ∧ Alike m.f m.s g g2 ∧ g.length + 2 ≤ 10 := hp
  have d6 := hm.d6
  refine run_cons (run_if (k := false) (EvT.is (et_cmp (od_nei c) (ev_call C_lw_seen hr (m, h, g) ⟨hm, hh, hg⟩ (eds_cons (ev_var 0 rfl rfl) (eds_cons (ev_var 1 rfl rfl) (eds_one (ev_var 2 rfl rfl))))) (ev_call C_lw_seen hr (m, h, g2) ⟨hm, hh, hg2⟩ (eds_cons (ev_var 0 rfl rfl) (eds_cons (ev_var 1 rfl rfl) (eds_one (ev_var 3 rfl rfl)))))) (by rw [alike_seen hA]; simp)) (fun z => nomatch z) fun _ => run_nil ?_)
  refine run_cons (run_if (k := false) (EvT.is (et_cmp (od_eqi c) (ev_var 4 rfl rfl) ev_int) rfl) (fun z => nomatch z) fun _ => run_nil ?_)
  have hpl : (prsOf m.ds.length g (List.range h)).length ≤ 28 := Nat.le_trans (prsOf_len _ g _) (Nat.le_trans (Nat.mul_le_mul (show (List.range h).length ≤ 4 by rw [List.length_range]; exact hh.2) (show m.ds.length + 1 ≤ 7 by omega)) (by decide))
  refine run_cons (run_for c (items := (prsOf m.ds.length g (List.range h)).map fun p => .one (.dat (ePr p))) (S0 := [.arg (eM m), .arg (eN h), .arg (eH g), .arg (eH g2), .arg (.int 2), .any]) (S' := [.arg (eM m), .arg (eN h), .arg (eH g), .arg (eH g2), .arg (.int 2), .any]) (dats_map ePr _ ▸ it_new (ev_callN C_lw_presses hr (m, h, g) ⟨hm, hh.2, by have := hg.1; show g.length ≤ 20; omega⟩ (eds_cons (ev_var 0 rfl rfl) (eds_cons (ev_var 1 rfl rfl) (eds_cons (ev_var 2 rfl rfl) (eds_one ev_int))))) (imms_map fun p _ => imm_Pr p)) (fun _ _ _ _ E => E) (for_run (fun p => .one (.dat (ePr p))) (fun _ => [.arg (eM m), .arg (eN h), .arg (eH g), .arg (eH g2), .arg (.int 2), .any]) _ fun u pr v e => ⟨[5], _, g_name 5 c.nd, ?_⟩) ?_)
  · have hok := prsOf_mem (h := h) (by rw [← e]; simp : pr ∈ prsOf m.ds.length g (List.range h))
    have hgl : g2.length = g.length := by
      have s1 : ∀ k : Hist, (∀ l ∈ k, l.1 < h) → (counts h k).sum = k.length := fun k => sum_len
      rw [← s1 g fun l hl => (hg.2 l hl).1, ← s1 g2 fun l hl => (hg2.2 l hl).1, alike_counts hA]
    obtain ⟨k1, k2, k3⟩ := prs_VH hg hok (by omega)
    obtain ⟨q1, q2, q3⟩ := prs_VH hg2 (prok_alike hA hok) (by omega)
    exact run_one (run_if (k := false) (et_val (ev_call C_lw_apart1 hr (m, h, prs g pr, prs g2 pr) ⟨hm, hh, k1, q1, prs_alike hA hok, by show (prs g pr).length + 1 ≤ 10; omega⟩ (eds_cons (ev_var 0 rfl rfl) (eds_cons (ev_var 1 rfl rfl) (eds_cons (ev_call C_lw_pressed hr (g, pr) ⟨by have := hg.1; show g.length ≤ 100; omega, k3⟩ (eds_cons (ev_var 2 rfl rfl) (eds_one (ev_var 5 rfl rfl)))) (eds_cons (ev_call C_lw_pressed hr (g2, pr) ⟨by have := hg2.1; show g2.length ≤ 100; omega, q3⟩ (eds_cons (ev_var 3 rfl rfl) (eds_one (ev_var 5 rfl rfl)))) (eds_one (EvD.is (ev_bin od_sub (ev_var 4 rfl rfl) ev_int) rfl)))))))) (fun z => nomatch z) fun _ => run_nil ⟨[5], rfl⟩)
  · exact run_one (run_ret ev_bool rfl)
end

theorem eqv_num : PyData.eqv (.tuple [.str "numbers"]) (.tuple [.str "numbers"]) = true := by
  rw [eqv_tup, eqvAll_cons, eqvAll_nil, eqv_str]
  decide +kernel
theorem shp_num : Shp 1 (.tuple [.str "numbers"]) := shp_tup fun d hd => by
  cases List.mem_singleton.mp hd
  exact shp_str 0 (by decide +kernel)
theorem unl_ne {m : Mach} {h : Nat} {g g2 : Hist} (hc : counts h g = counts h g2) (hs : same m h g g2 = false) : unl (counts h g) (tab m g) (tab m g2) ≠ [] := fun hn => by
  have e : same m h g g2 = true := decide_eq_true (by
    rw [← hc]
    refine List.map_congr_left fun v hv => Classical.byContradiction fun k => ?_
    have : v ∈ unl (counts h g) (tab m g) (tab m g2) := List.mem_filter.mpr ⟨hv, by simpa using k⟩
    rw [hn] at this
    cases this)
  rw [e] at hs
  cases hs
/-- the first of the nearest -/
theorem parts_of {m : Mach} {h : Nat} {g g2 : Hist} (hc : counts h g = counts h g2) (hs : same m h g g2 = false) : ∃ v, parts m h g g2 = backsTo (counts h g) v ∧ v ∈ unl (counts h g) (tab m g) (tab m g2) ∧ v.sum = mxs (unl (counts h g) (tab m g) (tab m g2)) := by
  have hn := near_ne (unl_ne hc hs)
  unfold parts
  cases q : near (unl (counts h g) (tab m g) (tab m g2)) with
  | nil => exact absurd q hn
  | cons v r =>
    have hv : v ∈ near (unl (counts h g) (tab m g) (tab m g2)) := by rw [q]; exact List.mem_cons_self
    obtain ⟨k1, k2⟩ := List.mem_filter.mp hv
    exact ⟨v, rfl, k1, of_decide_eq_true k2⟩
theorem eqv_lnil : PyData.eqv (.list []) (.list []) = true := by simp only [PyData.eqv, PyData.eqvAll]
theorem shp_lnil : Shp 1 (.list []) := shp_lst fun d hd => by cases hd
theorem filter_none {α : Type} (l : List α) : (l.filter fun _ => false) = [] := List.filter_eq_nil_iff.mpr fun _ _ => by simp


abbrev s_lw_compared : Stmt := top 110
theorem sc_lw_compared : FnScope ["_law_machine_here", "_law_hands", "_law_one", "_law_other_here", "_law_found", "_law_here", "_law_there", "_law_least", "_law_press", "_law_vector"] ["_law_machine_here", "_law_hands", "_law_one", "_law_other_here", "_law_found"] (defScope s_lw_compared) := ⟨rfl, rfl, rfl, by decide +kernel, rfl, by decide +kernel, by decide +kernel⟩
abbrev N_lw_compared : List Str := ["_law_machine_here", "_law_hands", "_law_one", "_law_other_here", "_law_found", "_law_here", "_law_there", "_law_least", "_law_press", "_law_vector"]
abbrev T_lw_compared (P : Program) (w : World) (K : PySem.W.Frag) (mg : Str → Option Value) (base : Heap) : Prop := CalF P w K mg base "_law_compared" 4 ["_law_machine_here", "_law_hands", "_law_one", "_law_other_here", "_law_found"] (spF (α := Mach × Nat × Hist × Hist × PyData) (fun a => [eM a.1, eN a.2.1, eH a.2.2.1, eH a.2.2.2.1, a.2.2.2.2]) (fun a => VM a.1 ∧ VHd a.2.1 ∧ VH a.2.1 a.1.ds.length a.2.2.1 ∧ VH a.2.1 a.1.ds.length a.2.2.2.1 ∧ CmpOk a.1 a.2.1 a.2.2.1 a.2.2.2.1 a.2.2.2.2) (fun a => .bool true))
section
variable {P : Program} {w : World} {K : PySem.W.Frag} {mg : Str → Option Value} {base : Heap}
theorem c_lw_compared (B : Blt mg) (G : Gls mg) (D : DefAt K mg "_law_compared" s_lw_compared) (C_lw_counts : T_lw_counts P w K mg base) (C_lw_table : T_lw_table P w K mg base) (C_lw_way_right : T_lw_way_right P w K mg base) (C_lw_led : T_lw_led P w K mg base) (C_lw_seen : T_lw_seen P w K mg base) (C_lw_vectors : T_lw_vectors P w K mg base) (C_lw_board : T_lw_board P w K mg base)  : T_lw_compared P w K mg base := by
  obtain ⟨f, fd, h1, F⟩ := D.ex
  refine ⟨f, fd, h1, F.kp, F.bindsN fun _ _ _ _ _ _ us hl => match us, hl with | [_, _, _, _, _], _ => rfl, ?_⟩
  refine fn_D F sc_lw_compared (fun _ => rfl) (fun a => [.arg (eM a.1), .arg (eN a.2.1), .arg (eH a.2.2.1), .arg (eH a.2.2.2.1), .arg a.2.2.2.2]) (fun _ _ => as_ok ⟨aA, aA, aA, aA, aA, trivial⟩) fun ⟨m, h, g, g2, fd⟩ hp cdv A outer s H E hr => ?_
  try dsimp only at hp
  have c := ctx_of (P := P) (w := w) (K := K) (base := base) (f := f) (cdv := cdv) (outer := outer) (H := H) (E := E) B sc_lw_compared.nd hr
  obtain ⟨hm, hh, hg, hg2, hok⟩ : VM m ∧ VHd h ∧ VH h m.ds.length g ∧ VH h m.ds.length g2 ∧ CmpOk m h g g2 fd := hp
  have cs1 := CsOk.counts (g := g) hh hg.1
  have h1024 := vecs_1024 cs1.sum
  have g100 : g.length ≤ 100 := by have := hg.1; omega
  have g200 : g2.length ≤ 100 := by have := hg2.1; omega
  refine run_cons (run_if (k := !decide (counts h g = counts h g2)) (et_cmp (od_neB c (shp_Ns _) (shp_Ns _) (eqv_Ns _ _)) (ev_call C_lw_counts hr (h, g) ⟨hh.2, g100⟩ (eds_cons (ev_var 1 rfl rfl) (eds_one (ev_var 2 rfl rfl)))) (ev_call C_lw_counts hr (h, g2) ⟨hh.2, g200⟩ (eds_cons (ev_var 1 rfl rfl) (eds_one (ev_var 3 rfl rfl))))) (fun k => ?_) fun k => run_nil ?_)
  · have hc : counts h g ≠ counts h g2 := by simpa using k
    rcases hok with ⟨_, rfl⟩ | ⟨h1, _⟩ | ⟨h1, _⟩
    · exact run_one (run_ret (EvD.is (ev_cmp (od_eqB c shp_num shp_num eqv_num) (ev_var 4 rfl rfl) (ev_tup (eds_one ev_str))) rfl) rfl)
    · exact absurd h1 hc
    · exact absurd h1 hc
  have hc : counts h g = counts h g2 := by simpa using k
  refine run_cons (run_if (k := same m h g g2) (et_cmp (od_eqB c (shp_T _ _) (shp_T _ _) (eTg_eqv m h g g2 hc)) (ev_call C_lw_table hr (m, h, g) ⟨hm, hh, hg⟩ (eds_cons (ev_var 0 rfl rfl) (eds_cons (ev_var 1 rfl rfl) (eds_one (ev_var 2 rfl rfl))))) (ev_call C_lw_table hr (m, h, g2) ⟨hm, hh, hg2⟩ (eds_cons (ev_var 0 rfl rfl) (eds_cons (ev_var 1 rfl rfl) (eds_one (ev_var 3 rfl rfl)))))) (fun ks => ?_) fun ks => run_nil ?_)
  · rcases hok with ⟨h1, _⟩ | ⟨_, _, st, rfl, hw⟩ | ⟨_, h1, _⟩
    · exact absurd hc h1
    · exact run_one (run_ret (ev_and (k := true) (k' := true) (EvD.is (ev_cmp (od_eqS c) (ev_ixT (i := 0) (ev_var 4 rfl rfl) ev_int rfl) ev_str) (bool_t (by decide +kernel))) fun _ => ev_and (k := true) (k' := true) (EvD.is (ev_cmp (od_eqi c) (ev_cb ca_lenT c.len boot_len (eds_one (ev_var 4 rfl rfl))) ev_int) rfl) fun _ => ev_one (ev_call C_lw_way_right hr (m, h, g, g2, st) ⟨hm, hh, hg, hg2, hw⟩ (eds_cons (ev_var 0 rfl rfl) (eds_cons (ev_var 1 rfl rfl) (eds_cons (ev_var 2 rfl rfl) (eds_cons (ev_var 3 rfl rfl) (eds_one (ev_ixT (i := 1) (ev_var 4 rfl rfl) ev_int rfl)))))))) rfl)
    · rw [ks] at h1
      cases h1
  rcases hok with ⟨h1, _⟩ | ⟨_, h1, _⟩ | ⟨_, _, rfl⟩
  · exact absurd hc h1
  · rw [ks] at h1
    cases h1
  obtain ⟨v, hpv, hvu, hvm⟩ := parts_of hc ks
  have hvf : Fits v (counts h g) := (mem_vecs _ _).mp (List.mem_filter.mp hvu).1
  have hvd : tab m g v ≠ tab m g2 v := by have := (List.mem_filter.mp hvu).2; simpa using this
  obtain ⟨a1, p1, v1, t1⟩ := led_vec (m := m) hg hvf
  obtain ⟨a2, p2, v2, t2⟩ := led_vec (m := m) hg2 (hc ▸ hvf)
  rw [← hc] at p2
  have hpl : (backsTo (counts h g) v).length ≤ 10 := by rw [backs_len hvf]; have := cs1.sum; omega
  rw [hpv]
  have e1 : ∀ {X : Cx} {S : List Sl} {p p2 p3 : Pos} {k : Nat}, EvD X (.Name "_law_found" p) S (.tuple [.str "apart", .tuple ((backsTo (counts h g) v).map eBk)]) → EvD X (.Subscript (.Name "_law_found" p) (.Constant (.int 1) k p2) p3) S (.tuple ((backsTo (counts h g) v).map eBk)) := fun h => ev_ixT (i := 1) h ev_int rfl
  have em : (backsTo (counts h g) v).map eBk = ((backsTo (counts h g) v).map Press.back).map ePr := by rw [List.map_map]; rfl
  refine run_cons (run_if (k := false) (et_w (ew_or (k := false) (k' := false) (EvT.is (et_cmp (od_neS c) (ev_ixT (i := 0) (ev_var 4 rfl rfl) ev_int rfl) ev_str) (by decide +kernel)) fun _ => ew_or (k := false) (k' := false) (EvT.is (et_cmp (od_nei c) (ev_cb ca_lenT c.len boot_len (eds_one (ev_var 4 rfl rfl))) ev_int) rfl) fun _ => ew_or1 (et_cmp (od_neB c shp_lnil shp_lnil eqv_lnil) (EvN.toD (ev_lci c [("_law_press", 8)] rfl (backsTo (counts h g) v) (fun z => .one (.dat (eBk z))) [8] (fun z => [_, _, _, _, _, _, _, _, .dat (eBk z), _]) (fun _ => false) eBk (it_tup (e1 (ev_var 4 rfl rfl)) (imms_map fun z _ => imm_Bk z)) (dats_map _ _) (by rw [filter_none]; rfl) (by omega) (by decide) (fun x hx s H C cl fp => g_name 8 c.nd) (fun z hz s H C cl fp => ets_one (EvT.is (et_cmp (od_neS c.blk) (ev_ixT (i := 0) (ds := [.str "back", eN z]) (ev_var 8 rfl rfl) ev_int rfl) ev_str) (by decide +kernel))) fun z hz k => nomatch k)) (EvN.toD (ev_lst eds_nil))))) (fun z => nomatch z) fun _ => run_nil ?_)
  refine run_cons (run_par 5 6 (.dat (eH a1)) (.dat (eH a2)) c ⟨imm_H _, ev_call C_lw_led hr (m, g, (backsTo (counts h g) v).map Press.back, a1) p1 (eds_cons (ev_var 0 rfl rfl) (eds_cons (ev_var 2 rfl rfl) (eds_one (EvD.is (e1 (ev_var 4 rfl rfl)) (by rw [em])))))⟩ ⟨imm_H _, ev_call C_lw_led hr (m, g2, (backsTo (counts h g) v).map Press.back, a2) p2 (eds_cons (ev_var 0 rfl rfl) (eds_cons (ev_var 3 rfl rfl) (eds_one (EvD.is (e1 (ev_var 4 rfl rfl)) (by rw [em])))))⟩ (by decide) ?_)
  refine run_cons (run_if (k := false) (EvT.is (et_cmp (od_eqi c) (ev_call C_lw_seen hr (m, h, a1) ⟨hm, hh, v1⟩ (eds_cons (ev_var 0 rfl rfl) (eds_cons (ev_var 1 rfl rfl) (eds_one (ev_var 5 rfl rfl))))) (ev_call C_lw_seen hr (m, h, a2) ⟨hm, hh, v2⟩ (eds_cons (ev_var 0 rfl rfl) (eds_cons (ev_var 1 rfl rfl) (eds_one (ev_var 6 rfl rfl)))))) (by rw [eqN, t1, t2]; simpa using hvd)) (fun z => nomatch z) fun _ => run_nil ?_)
  refine run_cons (run_lci 7 c [("_law_vector", 9)] rfl (vecs (counts h g)) (fun x => .one (.dat (eNs x))) [9] (fun x => [_, _, _, _, _, _, _, _, _, .dat (eNs x)]) (fun v => !decide (tab m g v = tab m g2 v)) (fun v => .int ((((counts h g).sum : Nat) : Int) - ((v.sum : Nat) : Int))) (it_new (ev_callN C_lw_vectors hr (counts h g) cs1 (eds_one (ev_call C_lw_counts hr (h, g) ⟨hh.2, g100⟩ (eds_cons (ev_var 1 rfl rfl) (eds_one (ev_var 2 rfl rfl)))))) (imms_map fun x _ => imm_Ns x)) (dats_map eNs _) (by omega) (by decide) (fun x hx s H C cl fp => g_name 9 c.nd) (fun x hx s H C cl fp => ets_one (EvT.is (et_cmp (od_nei c.blk) (ev_call C_lw_board hr (m, h, g, x) ⟨hm, hh.2, hg, ((mem_vecs _ x).mp hx).len⟩ (eds_cons (ev_var 0 rfl rfl) (eds_cons (ev_var 2 rfl rfl) (eds_one (ev_var 9 rfl rfl))))) (ev_call C_lw_board hr (m, h, g2, x) ⟨hm, hh.2, hg2, ((mem_vecs _ x).mp hx).len⟩ (eds_cons (ev_var 0 rfl rfl) (eds_cons (ev_var 3 rfl rfl) (eds_one (ev_var 9 rfl rfl)))))) (congrArg (!·) (eqN _ _)))) (fun x hx _ => ⟨rfl, fun s H C cl fp => ev_bin od_sub (ev_sum c.blk (ev_call C_lw_counts hr (h, g) ⟨hh.2, g100⟩ (eds_cons (ev_var 1 rfl rfl) (eds_one (ev_var 2 rfl rfl))))) (ev_sum c.blk (ev_var 9 rfl rfl))⟩) ?_)
  have hle := hvf.sum
  refine run_one (run_ret (EvD.is (ev_cmp (od_eqi c) (ev_cb ca_lenT c.len boot_len (eds_one (e1 (ev_var 4 rfl rfl)))) (ev_cb (ca_min c (ns := (unl (counts h g) (tab m g) (tab m g2)).map fun v => (((counts h g).sum : Nat) : Int) - ((v.sum : Nat) : Int)) (m := (((counts h g).sum : Nat) : Int) - ((v.sum : Nat) : Int)) (List.mem_map.mpr ⟨v, hvu, rfl⟩) ?_) c.min boot_min (eds_one (EvD.is (ev_var 7 rfl rfl) (by rw [List.map_map]; rfl))))) (bool_t ?_)) rfl)
  · intro y hy
    obtain ⟨x, hx, rfl⟩ := List.mem_map.mp hy
    have := mxs_le _ x hx
    omega
  · rw [List.length_map, backs_len hvf]
    exact decide_eq_true (by omega)
end
end Ow
end

section
set_option linter.all false
set_option maxRecDepth 100000
set_option maxHeartbeats 4000000
set_option autoImplicit false
/-! Defs: the law, how far. -/
namespace Ow
open PySem L2 OwL Om
open PyProof.Rows (envOfC)

section
variable {X : Cx} {S : List Sl} {e : Expr} {x : Str} {pos p : Pos} {d : PyData} {ds : List PyData}
theorem ev_index (c : Ctx X) (i j : Nat) {z : PyData} {n k : Nat} {p1 p2 p3 : Pos} (h : S[i]? = some (Sl.lst ds)) (he : EvD X e S d) (sl : Shp n (.list ds)) (sd : Shp k d) (hz : ds[j]? = some z) (hzj : PyData.eqv z d = true) (hno : ∀ (m : Nat) (z' : PyData), m < j → ds[m]? = some z' → PyData.eqv z' d = false) (hn : n ≤ 64 := by decide) (hk : k ≤ 64 := by decide)
    (hN : X.N[i]? = some x := by rfl) (hv : Vis X.env.scope x := by first | exact Or.inl rfl | exact Or.inr (Or.inl rfl) | exact Or.inr (Or.inr rfl)) (hdb : (x == ("__debug__" : Str)) = false := by decide)
    (hcd : (x == ("__classdict__" : Str)) = false := by decide) (hbase : attributeBase (.Name x p1) "index" X.env (eval (.Name x p1) X.env) = eval (.Name x p1) X.env := by rfl)
    (hfew : ((backTo p3 (starEach [e] X.env)).all (fun x => !x.1) && (backToKw p3 (keywordEach [] X.env)).all (fun x => x.1.isSome) && decide ([e].length + ([] : List Keyword).length + (if ([] : List Keyword).isEmpty then 0 else 1) < 30)) = true := by rfl)
    (hline : (p2.endLine == p3.line) = true := by rfl) (hs : starEach [e] X.env = (false, eval e X.env) :: starEach [] X.env := by rfl) (hplain : (backTo p3 (starEach [] X.env)).any (·.1) = false := by rfl) :
    EvD X (.Call (.Attribute (.Name x p1) "index" p2) [e] [] p3) S (eN j) := fun A B H σ E Q q => by
  obtain ⟨im0, pl, xs, h1, h2, h3, h4⟩ := E.vlst h
  refine ⟨_, pe_bm PySem.F.plainAttrs_list PySem.F.slot_list_index PySem.F.type_list_index (mt_indexD c.hu) (pe_var hN hv hdb hcd) (pa_cons we pa_nil hs) hbase hfew hline hs hplain, _, h1, .inl ⟨rfl, _, .inl (.inl h3)⟩, he A B H σ E _ fun v H1 e1 r1 => ?_⟩
  exact ⟨pl, v, d, ds, j, z, rfl, rfl, (Dv.lst (e1 _ _ h3) (h4.ex e1)).dp, r1.dp, sl.ok hn, sd.ok hk, hz, hzj, hno, q _ H1 e1 (.int _)⟩
/-- enumerate of an own list -/
theorem it_enumOwn {elts : List Expr} {kk : Nat} {tpos p2 : Pos} (c : Ctx X) (i : Nat) (h : S[i]? = some (Sl.lst ds)) (hN : X.N[i]? = some x := by rfl) (hv : Vis X.env.scope x := by first | exact Or.inl rfl | exact Or.inr (Or.inl rfl) | exact Or.inr (Or.inr rfl)) (hdb : (x == ("__debug__" : Str)) = false := by decide)
    (hcd : (x == ("__classdict__" : Str)) = false := by decide) (hg : Gl X "enumerate" := by rfl) (hs : starEach [.Name x p2] X.env = [(false, eval (.Name x p2) X.env)] := by rfl) (hs2 : starEach [.Name x p2] X.env = (false, eval (.Name x p2) X.env) :: starEach [] X.env := by rfl) :
    ItD X (.Tuple elts kk tpos) (.Call (.Name "enumerate" p) [.Name x p2] [] pos) S (S.set i Sl.any) (ds.mapIdx fun i d => .tup [.dat (.int i), .dat d]) := fun A B H σ E R r => by
  obtain ⟨im, q, xs, hq, hB, h1, h2⟩ := E.vlst h
  refine ⟨_, pi_enum hg c.enumerate (pa_cons (pe_var hN hv hdb hcd) pa_nil hs2) hs, _, hq, q, xs, rfl, .inl (.inl h1), r _ _ (Ex.refl H) fun G ag g => ?_⟩
  have E0 : EnvOk A B H σ (S.set i Sl.any) := E.forget'
  have nq : ¬ Own (S.set i Sl.any) σ q := fun ⟨j, es, g1, g2⟩ => by
    rcases get_set g1 with ⟨_, _, z⟩ | ⟨n, g1⟩
    · cases z
    · exact n (E.dis i j ds es q h g1 hq g2)
  have gq : G q = some (.lst xs) := g _ _ h1 nq
  refine ⟨fun j H2 e2 hi => ?_, fun j H2 e2 hi => ⟨xs, .inl (.inl (e2 _ _ gq)), by rw [hi, List.length_mapIdx, h2.length]; exact Nat.le_refl _⟩, fun j H2 x H3 e2 hy hi => ?_⟩
  · rw [List.length_mapIdx, ← h2.length] at hi
    exact ⟨xs, xs[j], .inl (.inl (e2 _ _ gq)), List.getElem?_eq_getElem hi⟩
  · obtain ⟨T, y, rfl, nT, rfl, hx⟩ := hy
    obtain ⟨d, hd, hv⟩ := h2.get (hx xs (.inl (.inl (e2 _ _ gq))))
    have hv2 := hv.tx ((tx_of E0 (Ex.refl H) g e2).trans (Ex.new (o := .tup [.int (j : Nat), y]) nT).tx) (imms_get im hd)
    exact ⟨Ex.new nT, .tup [.dat (.int j), .dat d], by rw [List.getElem?_mapIdx, hd]; rfl, T, _, rfl, upd_same, .cons ⟨rfl, .int _⟩ (.cons ⟨imms_get im hd, hv2⟩ .nil)⟩
end
theorem set_same {α : Type} {l : List α} {i : Nat} {x : α} (h : l[i]? = some x) : l.set i x = l := by
  apply List.ext_getElem?
  intro j
  rw [List.getElem?_set]
  by_cases e : i = j
  · subst e
    rw [if_pos rfl, if_pos (List.getElem?_eq_some_iff.mp h).1, h]
  · rw [if_neg e]
theorem idx_first (a : Nat × Nat) : ∀ l : List (Nat × Nat), a ∈ l → l[l.idxOf a]? = some a ∧ ∀ (m : Nat) (z : Nat × Nat), m < l.idxOf a → l[m]? = some z → z ≠ a
  | [], h => by cases h
  | b :: l, h => by
    rw [List.idxOf_cons]
    by_cases e : b = a
    · subst e
      rw [beq_self_eq_true]
      exact ⟨rfl, fun m z hm => absurd hm (Nat.not_lt_zero m)⟩
    · have hb : (b == a) = false := by simpa using e
      rw [hb]
      obtain ⟨h1, h2⟩ := idx_first a l ((List.mem_cons.mp h).resolve_left fun k => e k.symm)
      refine ⟨h1, fun m z hm hz => ?_⟩
      cases m with
      | zero =>
        cases (show b = z from Option.some.inj hz)
        exact e
      | succ m => exact h2 m z (Nat.lt_of_succ_lt_succ hm) hz
theorem ix_first {g : Hist} {a : Nat × Nat} (h : a ∈ nm g) : ((nm g).map eL)[ix g a]? = some (eL a) ∧ PyData.eqv (eL a) (eL a) = true ∧ ∀ (m : Nat) (z : PyData), m < ix g a → ((nm g).map eL)[m]? = some z → PyData.eqv z (eL a) = false := by
  obtain ⟨h1, h2⟩ := idx_first a (nm g) h
  refine ⟨by rw [List.getElem?_map]; unfold ix; rw [h1]; rfl, by rw [eqv_L]; simp, fun m z hm hz => ?_⟩
  rw [List.getElem?_map] at hz
  cases q : (nm g)[m]? with
  | none =>
    rw [q] at hz
    cases hz
  | some y =>
    rw [q] at hz
    cases (show eL y = z from Option.some.inj hz)
    rw [eqv_L]
    exact decide_eq_false (h2 m y hm q)
/-- the pairs turned, place by place -/
def tOf (g g2 : Hist) (u : List Nat) : Nat := (u.map fun i => (((nm g).drop (i + 1)).filter fun a => decide (ix g2 a < ix g2 ((nm g).getD i (0, 0)))).length).sum
theorem inv_sum (f : Nat × Nat → Nat) : ∀ l : List (Nat × Nat), inv (l.map f) = ((List.range l.length).map fun i => ((l.drop (i + 1)).filter fun a => decide (f a < f (l.getD i (0, 0)))).length).sum
  | [] => rfl
  | b :: l => by
    show ((l.map f).filter fun a => decide (a < f b)).length + inv (l.map f) = _
    rw [inv_sum f l, List.length_cons, List.range_succ_eq_map, List.map_cons, List.sum_cons, List.map_map, List.filter_map, List.length_map]
    rfl
theorem tOf_all (g g2 : Hist) : tOf g g2 (List.range (nm g).length) = inv ((nm g).map (ix g2)) := (inv_sum (ix g2) (nm g)).symm
theorem tOf_snoc (g g2 : Hist) (u : List Nat) (i : Nat) : tOf g g2 (u ++ [i]) = tOf g g2 u + (((nm g).drop (i + 1)).filter fun a => decide (ix g2 a < ix g2 ((nm g).getD i (0, 0)))).length := by
  unfold tOf
  rw [List.map_append, List.sum_append]
  simp
theorem oth_en (g g2 : Hist) : oth g g2 = ((en (nm g)).filter fun x => !decide ((g.getD x.1 (0, 0)).2 = (g2.getD (ix g2 x.2) (0, 0)).2)).length := by
  have e : g.zip (nm g) = (en (nm g)).map fun x => (g.getD x.1 (0, 0), x.2) := by
    have hl : (nm g).length = g.length := by unfold nm; rw [nmP_len]
    apply List.ext_getElem?
    intro i
    unfold en
    rw [List.getElem?_map, List.getElem?_mapIdx]
    by_cases h : i < g.length
    · have h2 : i < (nm g).length := by omega
      rw [List.getElem?_eq_getElem h2, List.getElem?_zip_eq_some (z := (g[i], (nm g)[i])).mpr ⟨List.getElem?_eq_getElem h, List.getElem?_eq_getElem h2⟩]
      show _ = some (g.getD i (0, 0), (nm g)[i])
      rw [getD_of (List.getElem?_eq_getElem h)]
    · rw [List.getElem?_eq_none (by rw [List.length_zip]; omega), List.getElem?_eq_none (by omega)]
      rfl
  unfold oth
  rw [e, List.filter_map, List.length_map]
  rfl
/-- lists set aside -/
def Fz (G H : Hp) (P0 : Addr) (Ls : List (Addr × Hist)) : Prop := H P0 = some (.lst (Ls.map fun t => V.ref t.1)) ∧ (∀ t ∈ Ls, G t.1 = none ∧ t.1 ≠ P0 ∧ ∃ xs, H t.1 = some (.lst xs) ∧ Dvs H xs ((nm t.2).map eL)) ∧ (Ls.map (·.1)).Nodup
theorem Fz_nil {G H : Hp} {P0 : Addr} (h : H P0 = some (.lst [])) : Fz G H P0 [] := ⟨h, fun t ht => by simp at ht, List.nodup_nil⟩
theorem EnvOk.scratch {A B H : Hp} {σ : L2.St} {S : List Sl} (E : EnvOk A B H σ S) {p : Addr} {xs ys : List V} (hB : B p = none) (hp : H p = some (.lst xs)) (hno : ∀ (i : Nat) (ds : List PyData), S[i]? ≠ some (Sl.lst ds)) : EnvOk A B (upd H p (HO.lst ys)) σ S where
  ax := E.ax
  ex := E.ex.mut hB
  len := E.len
  sl := fun i o s h1 h2 => by
    have q := E.sl i o s h1 h2
    cases s with
    | any => trivial
    | fix u => exact q
    | obj C0 fsd0 => exact q
    | pre F0 => exact q
    | arg d => exact q
    | dat d =>
      obtain ⟨a, u, b, r⟩ := q
      exact ⟨a, u, b, r.tx (Tx.mut hp) a⟩
    | lst ds => exact absurd h2 (hno i ds)
  dis := fun i j ds es q h1 => absurd h1 (hno i ds)
theorem imms_nm (g : Hist) : imms ((nm g).map eL) = true := imms_map fun l _ => imm_L l


abbrev s_lw_far : Stmt := top 105
theorem sc_lw_far : FnScope ["_law_hands", "_law_one", "_law_other_here", "_law_places", "_law_history_here", "_law_seen_here", "_law_found", "_law_hand", "_law_deed", "_law_first", "_law_second", "_law_turned", "_law_at", "_law_later", "_law_name"] ["_law_hands", "_law_one", "_law_other_here"] (defScope s_lw_far) := ⟨rfl, rfl, rfl, by decide +kernel, rfl, by decide +kernel, by decide +kernel⟩
abbrev N_lw_far : List Str := ["_law_hands", "_law_one", "_law_other_here", "_law_places", "_law_history_here", "_law_seen_here", "_law_found", "_law_hand", "_law_deed", "_law_first", "_law_second", "_law_turned", "_law_at", "_law_later", "_law_name"]
abbrev T_lw_far2 (P : Program) (w : World) (K : PySem.W.Frag) (mg : Str → Option Value) (base : Heap) : Prop := CalF P w K mg base "_law_far" 1 ["_law_hands", "_law_one", "_law_other_here"] (spF (α := Nat × Hist × Hist) (fun a => [eN a.1, eH a.2.1, eH a.2.2]) (fun a => a.1 ≤ 4 ∧ a.2.1.length ≤ 20 ∧ a.2.2.length ≤ 20 ∧ (∀ l ∈ a.2.1, l.1 < a.1) ∧ (∀ l ∈ a.2.2, l.1 < a.1) ∧ ∀ z, cnt z a.2.1 = cnt z a.2.2) (fun a => eN (far a.2.1 a.2.2)))
section
variable {P : Program} {w : World} {K : PySem.W.Frag} {mg : Str → Option Value} {base : Heap}
theorem c_lw_far (B : Blt mg) (G : Gls mg) (D : DefAt K mg "_law_far" s_lw_far)   : T_lw_far2 P w K mg base := by
  obtain ⟨f, fd, h1, F⟩ := D.ex
  refine ⟨f, fd, h1, F.kp, F.bindsN fun _ _ _ _ _ _ us hl => match us, hl with | [_, _, _], _ => rfl, ?_⟩
  refine fn_D F sc_lw_far (fun _ => rfl) (fun a => [.arg (eN a.1), .arg (eH a.2.1), .arg (eH a.2.2)]) (fun _ _ => as_ok ⟨aA, aA, aA, trivial⟩) fun ⟨h, g, g2⟩ hp cdv A outer s H E hr => ?_
  try dsimp only at hp
  have c := ctx_of (P := P) (w := w) (K := K) (base := base) (f := f) (cdv := cdv) (outer := outer) (H := H) (E := E) B sc_lw_far.nd hr
  obtain ⟨h4, hg, hg2, hgh, hg2h, hc⟩ : h ≤ 4 ∧ g.length ≤ 20 ∧ g2.length ≤ 20 ∧ (∀ l ∈ g, l.1 < h) ∧ (∀ l ∈ g2, l.1 < h) ∧ ∀ z, cnt z g = cnt z g2 := hp
  have ln : (nm g).length = g.length := by unfold nm; rw [nmP_len]
  have ln2 : (nm g2).length = g2.length := by unfold nm; rw [nmP_len]
  have hmem : ∀ a ∈ nm g, a ∈ nm g2 := fun a ha => by
    rw [mem_nm] at ha ⊢
    rw [← hc]
    exact ha
  have shn : ∀ k : Hist, Shp 2 (.list ((nm k).map eL)) := fun k => shp_lmap fun l _ => shp_L l
  have rest : RunS (bX P w K mg base N_lw_far "_law_far" (defScope s_lw_far) f cdv A outer s H E) ((defBody s_lw_far).drop 3) [.arg (eN h), .arg (eH g), .arg (eH g2), .any, .any, .any, .any, .any, .any, .lst ((nm g).map eL), .lst ((nm g2).map eL), .any, .any, .any, .any] { nx := fun _ => False, rt := fun d => d = eN (far g g2) } := by
    refine run_cons (run_set 11 (.dat (eN (tOf g g2 []))) c ⟨rfl, ev_int⟩ ?_)
    refine run_cons (run_for c (items := (List.range (nm g).length).map fun z => .one (.dat (eN z))) (S0 := [.arg (eN h), .arg (eH g), .arg (eH g2), .any, .any, .any, .any, .any, .any, .lst ((nm g).map eL), .lst ((nm g2).map eL), .dat (eN (tOf g g2 [])), .any, .any, .any]) (S' := [.arg (eN h), .arg (eH g), .arg (eH g2), .any, .any, .any, .any, .any, .any, .lst ((nm g).map eL), .lst ((nm g2).map eL), .dat (eN (tOf g g2 (List.range (nm g).length))), .any, .any, .any]) (rng_N (nm g).length ▸ it_range c (n := (((nm g).length : Nat) : Int)) (EvD.is (ev_cb ca_lenL c.len boot_len (eds_one (ev_var 9 rfl rfl))) (by rw [List.length_map])) (by omega) (by omega)) (fun _ _ _ _ E => E) (for_run (fun z => .one (.dat (eN z))) (fun u => [.arg (eN h), .arg (eH g), .arg (eH g2), .any, .any, .any, .any, .any, .any, .lst ((nm g).map eL), .lst ((nm g2).map eL), .dat (eN (tOf g g2 u)), .any, .any, .any]) _ fun u i v e => ⟨[12], _, g_name 12 c.nd, ?_⟩) ?_)
    · have hi : i < (nm g).length := List.mem_range.mp (by rw [← e]; simp)
      have hgi : (nm g)[i]? = some ((nm g).getD i (0, 0)) := by rw [getD_of (List.getElem?_eq_getElem hi)]; exact List.getElem?_eq_getElem hi
      have hmi : (nm g).getD i (0, 0) ∈ nm g := List.mem_of_getElem? hgi
      refine run_one (run_set 11 (.dat (eN (tOf g g2 (u ++ [i])))) c ⟨rfl, EvD.is (ev_bin od_add (ev_var 11 rfl rfl) (ev_cb ca_lenL c.len boot_len (eds_one (EvN.toD (ev_lci c [("_law_later", 13)] rfl ((nm g).drop (i + 1)) (fun x => .one (.dat (eL x))) [13] (fun x => [_, _, _, _, _, _, _, _, _, .lst ((nm g).map eL), .lst ((nm g2).map eL), _, .dat (eN i), .dat (eL x), _]) (fun a => decide (ix g2 a < ix g2 ((nm g).getD i (0, 0)))) (fun _ => .int 1) (it_new (EvN.is (ev_slL (ev_var 9 rfl rfl) (eo_some (ev_bin od_add (ev_var 12 rfl rfl) ev_int)) eo_none) (by rw [show ((i : Nat) : Int) + 1 = ((i + 1 : Nat) : Int) from rfl, cutD_drop, ← List.map_drop])) (imms_map fun l _ => imm_L l)) (dats_map eL _) rfl (by rw [List.length_drop]; omega) (by decide) (fun x hx s H C cl fp => g_name 13 c.nd) (fun a ha s H C cl fp => ?_) fun a ha _ => ⟨rfl, fun s H C cl fp => ev_int⟩))))) ?_⟩ ⟨[12], rfl⟩)
      · obtain ⟨k1, k2, k3⟩ := ix_first (hmem a (List.mem_of_mem_drop ha))
        obtain ⟨q1, q2, q3⟩ := ix_first (hmem _ hmi)
        exact ets_one (EvT.is (et_cmp od_lt (ev_index c.blk 10 (ix g2 a) rfl (ev_var 13 rfl rfl) (shn g2) (shp_L a) k1 k2 k3) (ev_index c.blk 10 (ix g2 ((nm g).getD i (0, 0))) rfl (ev_ixL (ev_var 9 rfl rfl) (ev_var 12 rfl rfl) (atI_map (f := eL) hgi)) (shn g2) (shp_L _) q1 q2 q3)) (ltN _ _))
      · rw [tOf_snoc, List.length_map]
        rfl
    · rw [tOf_all]
      refine run_one (run_ret (EvD.is (ev_bin od_add (ev_var 11 rfl rfl) (ev_cb ca_lenL c.len boot_len (eds_one (EvN.toD (ev_lci c [("_law_at", 12), ("_law_name", 14)] rfl (en (nm g)) (fun x => .tup [.dat (eN x.1), .dat (eL x.2)]) [12, 14] (fun x => [_, _, _, _, _, _, _, _, _, _, .lst ((nm g2).map eL), _, .dat (eN x.1), _, .dat (eL x.2)]) (fun x => !decide ((g.getD x.1 (0, 0)).2 = (g2.getD (ix g2 x.2) (0, 0)).2)) (fun _ => .int 1) (it_enumOwn c 9 rfl) (en_map _ _ _) rfl (by rw [en_len]; omega) (by decide) (fun x hx s H C cl fp => g_tup2 12 14 c.blk) (fun x hx s H C cl fp => ?_) fun a ha _ => ⟨rfl, fun s H C cl fp => ev_int⟩))))) ?_) rfl)
      · obtain ⟨k1, k2, k3⟩ := ix_first (hmem _ (en_mem hx))
        have h1 : x.1 < g.length := by have := (List.getElem?_eq_some_iff.mp (en_get hx)).1; omega
        have h2 : ix g2 x.2 < g2.length := by have := (List.getElem?_eq_some_iff.mp k1).1; rw [List.length_map] at this; omega
        have e1 : g[x.1]? = some (g.getD x.1 (0, 0)) := by rw [getD_of (List.getElem?_eq_getElem h1)]; exact List.getElem?_eq_getElem h1
        have e2 : g2[ix g2 x.2]? = some (g2.getD (ix g2 x.2) (0, 0)) := by rw [getD_of (List.getElem?_eq_getElem h2)]; exact List.getElem?_eq_getElem h2
        exact ets_one (EvT.is (et_cmp (od_nei c.blk) (ev_ixT (i := 1) (ev_ixT (ev_var 1 rfl rfl) (ev_var 12 rfl rfl) (atI_map (f := eL) e1)) ev_int rfl) (ev_ixT (i := 1) (ev_ixT (ev_var 2 rfl rfl) (ev_index c.blk 10 (ix g2 x.2) rfl (ev_var 14 rfl rfl) (shn g2) (shp_L _) k1 k2 k3) (atI_map (f := eL) e2)) ev_int rfl)) (congrArg (!·) (eqN _ _)))
      · rw [List.length_map, ← oth_en]
        rfl
  refine run_cons (run_set 3 (.lst []) c ⟨rfl, ev_lst eds_nil⟩ ?_)
  intro A1 B1 H1 σ1 D1 E1 K1
  have Sf0 : ∀ k : Hist, k = g ∨ k = g2 → ∀ (G0 : Hp) (P0 : Addr) (Nx : L2.St → Hp → Prop) (Ls : List (Addr × Hist)) (A2 : Hp) (σ2 : L2.St) (H2 : Hp) (D2 : Ends), Ex A2 G0 → Ex G0 H2 → G0 P0 = none → EnvOk A2 G0 H2 σ2 [.arg (eN h), .arg (eH g), .arg (eH g2), .fix (.ref P0), .dat (eH k), .any, .any, .any, .any, .any, .any, .any, .any, .any, .any] → Fz G0 H2 P0 Ls → Ls.length < 1000 →
      (∀ (L : Addr) (σ3 : L2.St) (H3 : Hp), EnvOk A2 G0 H3 σ3 [.arg (eN h), .arg (eH g), .arg (eH g2), .fix (.ref P0), .any, .any, .any, .any, .any, .any, .any, .any, .any, .any, .any] → Fz G0 H3 P0 (Ls ++ [(L, k)]) → D2.nx σ3 H3) →
      WSs (bX P w K mg base N_lw_far "_law_far" (defScope s_lw_far) f cdv A outer s H E) (forBd (nth (defBody s_lw_far) 1)) D2 σ2 H2 := ?turn
  · have E1' := E1
    obtain ⟨_, P0, xs0, hP, hB, hH, hD⟩ := E1.vlst (i := 3) rfl
    cases hD
    have hno : ∀ (q : Sl) (i : Nat) (ds : List PyData), (∀ ds, q ≠ Sl.lst ds) → [Sl.arg (eN h), .arg (eH g), .arg (eH g2), .fix (.ref P0), q, .any, .any, .any, .any, .any, .any, .any, .any, .any, .any][i]? ≠ some (Sl.lst ds) := fun q i ds hq => by
      match i with
      | 0 => exact nofun
      | 1 => exact nofun
      | 2 => exact nofun
      | 3 => exact nofun
      | 4 => exact fun k => hq ds (Option.some.inj k)
      | 5 => exact nofun
      | 6 => exact nofun
      | 7 => exact nofun
      | 8 => exact nofun
      | 9 => exact nofun
      | 10 => exact nofun
      | 11 => exact nofun
      | 12 => exact nofun
      | 13 => exact nofun
      | 14 => exact nofun
      | n + 15 => exact nofun
    refine ⟨_, pss_cons (ps_for PassesOwn.never c.calm wi wg wss (by intro _; rfl)) (pss_cons (ps_asg (pe_var (i := 3) rfl (Or.inl rfl) (by decide) (by decide)) (pg_unl c.calm (pgs_cons (pg_name (i := 9) c.nd rfl (by first | exact Or.inl rfl | exact Or.inr rfl) (by first | exact .inl rfl | exact .inr rfl)) (pgs_cons (pg_name (i := 10) c.nd rfl (by first | exact Or.inl rfl | exact Or.inr rfl) (by first | exact .inl rfl | exact .inr rfl)) pgs_nil)))) wss), ?_⟩
    refine it_tup (X := bX P w K mg base N_lw_far "_law_far" (defScope s_lw_far) f cdv A outer s H E) (S := [.arg (eN h), .arg (eH g), .arg (eH g2), .lst [], .any, .any, .any, .any, .any, .any, .any, .any, .any, .any, .any]) (ds := [eH g, eH g2]) (ev_tup (eds_cons (ev_var 1 rfl rfl) (eds_one (ev_var 2 rfl rfl)))) (imms_cons.mpr ⟨imm_H _, imms_cons.mpr ⟨imm_H _, rfl⟩⟩) A1 B1 H1 σ1 E1 _ fun J H2 e2 hJ => ?_
    obtain ⟨G, bg, EG, hG⟩ := (E1.mono e2).grow
    have IO := hJ G EG.ax hG
    obtain ⟨_, P1, xs1, hP1, hG1, hH1, hD1⟩ := EG.vlst (i := 3) rfl
    rw [hP] at hP1
    cases hP1
    cases hD1
    have Ef : EnvOk A1 G H2 σ1 [.arg (eN h), .arg (eH g), .arg (eH g2), .fix (.ref P0), .any, .any, .any, .any, .any, .any, .any, .any, .any, .any, .any] := by
      have := EG.put (i := 3) (o := some (.ref P0)) (s := .fix (.ref P0)) rfl fun _ z => nomatch z
      rw [set_same hP] at this
      exact this
    have hgl : ∀ i, i < 2 → ∃ k, (k = g ∨ k = g2) ∧ [g, g2][i]? = some k ∧ (dats [eH g, eH g2])[i]? = some (.one (.dat (eH k))) := fun i hi => by
      match i, hi with
      | 0, _ => exact ⟨g, .inl rfl, rfl, rfl⟩
      | 1, _ => exact ⟨g2, .inr rfl, rfl, rfl⟩
    refine ⟨fun i m σ H => m = 2 - i ∧ i ≤ 2 ∧ EnvOk A1 G H σ [.arg (eN h), .arg (eH g), .arg (eH g2), .fix (.ref P0), .any, .any, .any, .any, .any, .any, .any, .any, .any, .any, .any] ∧ ∃ Ls : List (Addr × Hist), Fz G H P0 Ls ∧ Ls.map (·.2) = [g, g2].take i, ⟨_, rfl, Nat.zero_le _, Ef, [], Fz_nil hH1, rfl⟩, ?_⟩
    rintro i m σ3 H3 ⟨rfl, hle, E3, Ls, hF, hLs⟩
    have hLl : Ls.length ≤ 2 := by
      have := congrArg List.length hLs
      rw [List.length_map, List.length_take] at this
      show Ls.length ≤ 2
      have : Ls.length = min i 2 := this
      omega
    by_cases hlt : i < 2
    · obtain ⟨k, hk, hk1, hk2⟩ := hgl i hlt
      refine .inr ⟨IO.go i H3 E3.ex hlt, fun σ' H' => EnvOk A1 G H' σ' [.arg (eN h), .arg (eH g), .arg (eH g2), .fix (.ref P0), .any, .any, .any, .any, .any, .any, .any, .any, .any, .any, .any] ∧ ∃ Ls : List (Addr × Hist), Fz G H' P0 Ls ∧ Ls.map (·.2) = [g, g2].take (i + 1), fun σ' H' ⟨q1, q2⟩ => ⟨2 - (i + 1), by omega, rfl, hlt, q1, q2⟩, fun x H' hy => ?_⟩
      obtain ⟨e4, it, hit, iv⟩ := IO.yld i H3 x H' E3.ex hy hlt
      rw [hk2] at hit
      cases hit
      refine (g_name (X := bX P w K mg base N_lw_far "_law_far" (defScope s_lw_far) f cdv A outer s H E) (S := [.arg (eN h), .arg (eH g), .arg (eH g2), .fix (.ref P0), .any, .any, .any, .any, .any, .any, .any, .any, .any, .any, .any]) 4 (s := .dat (eH k)) c.nd) A1 G H' σ3 x (E3.mono e4) iv _ fun σ4 E4 _ => ?_
      have hF' : Fz G H' P0 Ls := ⟨e4 _ _ hF.1, fun t ht => by
        obtain ⟨q1, q2, xs, q3, q4⟩ := hF.2.1 t ht
        exact ⟨q1, q2, xs, e4 _ _ q3, q4.ex e4⟩, hF.2.2⟩
      refine Sf0 k hk G P0 (fun _ _ => True) Ls A1 σ4 H' _ E3.ax (E3.ex.trans e4) hG1 E4 hF' (by omega) fun L σ5 H5 E5 hF5 => ⟨E5, _, hF5, ?_⟩
      rw [List.map_append, hLs, List.take_succ_eq_append_getElem (by exact hlt)]
      show _ ++ [k] = _ ++ [[g, g2][i]]
      rw [Option.some.inj ((List.getElem?_eq_getElem (show i < [g, g2].length from hlt)).symm.trans hk1)]
    · have e : i = 2 := by omega
      subst e
      refine .inl ⟨IO.stop _ H3 E3.ex rfl, ?_⟩
      have hLs : Ls.map (·.2) = [g, g2] := hLs
      match Ls, hLs, hF with
      | [(L1, _), (L2, _)], rfl, hF =>
      obtain ⟨h01, h02, h03⟩ := hF
      obtain ⟨o3, hs3, hv3⟩ := E3.at (i := 3) rfl
      cases (show o3 = some (.ref P0) from hv3)
      obtain ⟨a1, a2, xs1, a3, a4⟩ := h02 (L1, g) (by simp)
      obtain ⟨b1, b2, xs2, b3, b4⟩ := h02 (L2, g2) (by simp)
      have hne : L1 ≠ L2 := fun z => by
        rw [z] at h03
        simp at h03
      refine ⟨_, hs3, P0, _, rfl, .inl (.inl h01), rfl, _, _, rfl, _, _, rfl, rfl, ?_⟩
      have F1 := E3.setLst (i := 9) (p := L1) (xs := xs1) (imms_nm g) a1 a3 a4 fun j es _ hj => absurd hj (hno .any j es fun _ z => nomatch z)
      have F2 := F1.setLst (i := 10) (p := L2) (xs := xs2) (imms_nm g2) b1 b3 b4 fun j es hj1 hj => by
        rcases get_set hj with ⟨rfl, _, _⟩ | ⟨n, hj⟩
        · intro z
          have hl9 : 9 < σ3.length := by rw [E3.len]; exact (by decide : 9 < 15)
          rw [List.getElem?_set_self hl9] at z
          cases z
          exact hne rfl
        · exact absurd hj (hno .any j es fun _ z => nomatch z)
      exact rest A1 G H3 _ D1 (F2.forgets [3]) ⟨fun S' σ' H' q E' => q.elim, fun d v H' q e r => K1.rt d v H' q (bg.trans e) r, fun ds p xs H' q e n r1 r2 => q.elim⟩
  · intro k hk G0 P0 Nx Ls A2 σ2 H2 D2 ax ex hG0 E2 hF hLl hnx
    have hkl : (∀ l ∈ k, l.1 < h) ∧ k.length ≤ 20 := by
      rcases hk with rfl | rfl
      · exact ⟨hgh, hg⟩
      · exact ⟨hg2h, hg2⟩
    have hn5 : ∀ (i : Nat) (ds : List PyData), [Sl.arg (eN h), .arg (eH g), .arg (eH g2), .fix (.ref P0), .dat (eH k), .any, .any, .any, .any, .any, .any, .any, .any, .any, .any][i]? ≠ some (Sl.lst ds) := fun i ds => by
      match i with
      | 0 => exact nofun
      | 1 => exact nofun
      | 2 => exact nofun
      | 3 => exact nofun
      | 4 => exact nofun
      | 5 => exact nofun
      | 6 => exact nofun
      | 7 => exact nofun
      | 8 => exact nofun
      | 9 => exact nofun
      | 10 => exact nofun
      | 11 => exact nofun
      | 12 => exact nofun
      | 13 => exact nofun
      | 14 => exact nofun
      | n + 15 => exact nofun
    have EB : EnvOk A2 H2 H2 σ2 [.arg (eN h), .arg (eH g), .arg (eH g2), .fix (.ref P0), .dat (eH k), .any, .any, .any, .any, .any, .any, .any, .any, .any, .any] := by
      refine ⟨ax.trans ex, Ex.refl _, E2.len, fun i o s' h1 h2 => ?_, E2.dis⟩
      have q := E2.sl i o s' h1 h2
      cases s' with
      | any => trivial
      | fix u => exact q
      | obj C0 fsd0 => exact q
      | pre F0 => exact q
      | arg d => exact q
      | dat d => exact q
      | lst ds => exact absurd h2 (hn5 i ds)
    refine ⟨_, pss_cons ws (pss_cons ws (pss_one ws)), ?_⟩
    refine (run_par (X := bX P w K mg base N_lw_far "_law_far" (defScope s_lw_far) f cdv A outer s H E) (S := [.arg (eN h), .arg (eH g), .arg (eH g2), .fix (.ref P0), .dat (eH k), .any, .any, .any, .any, .any, .any, .any, .any, .any, .any]) (P := { nx := fun S' => S' = [.arg (eN h), .arg (eH g), .arg (eH g2), .fix (.ref P0), .dat (eH k), .lst ((counts h []).map eN), .lst ((nm []).map eL), .any, .any, .any, .any, .any, .any, .any, .any] }) 5 6 (.lst ((counts h []).map eN)) (.lst []) c ⟨imms_N _, EvN.is (ev_binN (on_rep (k := ((h : Nat) : Int)) (by omega) (by omega) (by rw [Int.toNat_natCast]; show 1 * h ≤ _; omega)) (EvN.toD (ev_lst (eds_one ev_int))) (ev_var 0 rfl rfl)) (by rw [Int.toNat_natCast, rep_flat]; exact rep_counts h)⟩ ⟨rfl, ev_lst eds_nil⟩ (by decide) rfl) A2 H2 H2 σ2 _ EB ⟨fun S' σ' H' q E' => ?_, fun d v H' q _ _ => q.elim, fun ds p xs H' q _ _ _ _ => q.elim⟩
    subst q
    refine (run_for (X := bX P w K mg base N_lw_far "_law_far" (defScope s_lw_far) f cdv A outer s H E) (S := [.arg (eN h), .arg (eH g), .arg (eH g2), .fix (.ref P0), .dat (eH k), .lst ((counts h []).map eN), .lst ((nm []).map eL), .any, .any, .any, .any, .any, .any, .any, .any]) (S0 := [.arg (eN h), .arg (eH g), .arg (eH g2), .fix (.ref P0), .dat (eH k), .lst ((counts h []).map eN), .lst ((nm []).map eL), .any, .any, .any, .any, .any, .any, .any, .any]) (P := { nx := fun S' => S' = [.arg (eN h), .arg (eH g), .arg (eH g2), .fix (.ref P0), .dat (eH k), .lst ((counts h k).map eN), .lst ((nm k).map eL), .any, .any, .any, .any, .any, .any, .any, .any] }) c (items := k.map fun l => .one (.dat (eL l))) (S' := [.arg (eN h), .arg (eH g), .arg (eH g2), .fix (.ref P0), .dat (eH k), .lst ((counts h k).map eN), .lst ((nm k).map eL), .any, .any, .any, .any, .any, .any, .any, .any]) (dats_map eL k ▸ it_tup (ev_var 4 rfl rfl) (imms_L k)) (fun _ _ _ _ E => E) (for_run (fun l => .one (.dat (eL l))) (fun u => [.arg (eN h), .arg (eH g), .arg (eH g2), .fix (.ref P0), .dat (eH k), .lst ((counts h u).map eN), .lst ((nm u).map eL), .any, .any, .any, .any, .any, .any, .any, .any]) k fun u l t e => ⟨[7, 8], _, GTo.ofTup (g_tup2 7 8 c), ?_⟩) rfl) A2 H2 H' σ' _ E' ⟨fun S' σ'' H'' q E'' => ?_, fun d v H' q _ _ => q.elim, fun ds p xs H' q _ _ _ _ => q.elim⟩
    · have hl : l.1 < h := hkl.1 l (by rw [← e]; simp)
      have hul : u.length ≤ 20 := by have := congrArg List.length e; have := hkl.2; simp at *; omega
      have hcu : (counts h u)[l.1]? = some (cnt l.1 u) := by rw [At_get (by rw [counts_len]; exact hl), counts_at hl]
      have lnu : (nm u).length = u.length := by unfold nm; rw [nmP_len]
      refine run_cons (run_append 6 rfl (ev_tup (eds_cons (ev_var 7 rfl rfl) (eds_one (ev_ixL (ev_var 5 rfl rfl) (ev_var 7 rfl rfl) (atI_map (f := eN) hcu))))) rfl (by rw [List.length_map]; omega) ?_)
      refine run_one (run_setItem 5 (z := ((l.1 : Nat) : Int)) (j := l.1) (d := eN (cnt l.1 u + 1)) rfl (ev_bin od_add (ev_ixL (ev_var 5 rfl rfl) (ev_var 7 rfl rfl) (atI_map (f := eN) hcu)) ev_int) rfl (ev_var 7 rfl rfl) (ixN_nat (by rw [List.length_map, counts_len]; exact hl)) ⟨[7, 8], ?_⟩)
      rw [← counts_set hl, List.map_set, nm_snoc, List.map_append]
      rfl
    · subst q
      obtain ⟨o3, hs3, hv3⟩ := E''.at (i := 3) rfl
      cases (show o3 = some (.ref P0) from hv3)
      obtain ⟨_, L, xs, hs6, hL, hLx, hLd⟩ := E''.vlst (i := 6) rfl
      have hP'' := E''.ex _ _ hF.1
      refine ⟨_, ps_expr (pe_bm PySem.F.plainAttrs_list PySem.F.slot_list_append PySem.F.type_list_append mt_append (pe_var (i := 3) rfl (Or.inl rfl) (by decide) (by decide)) (pa_cons (pe_var (i := 6) rfl (Or.inl rfl) (by decide) (by decide)) pa_nil)) rfl, _, hs3, .inl ⟨rfl, _, .inl (.inl hP'')⟩, _, hs6, ?_⟩
      refine ⟨P0, _, _, rfl, rfl, hP'', szl (by rw [List.length_map]; omega), hnx L _ _ ?_ ?_⟩
      · have F := (E''.forgets [4, 5, 6]).base ax ex
        refine F.scratch hG0 hP'' fun i ds => ?_
        match i with
        | 0 => exact nofun
        | 1 => exact nofun
        | 2 => exact nofun
        | 3 => exact nofun
        | 4 => exact nofun
        | 5 => exact nofun
        | 6 => exact nofun
        | 7 => exact nofun
        | 8 => exact nofun
        | 9 => exact nofun
        | 10 => exact nofun
        | 11 => exact nofun
        | 12 => exact nofun
        | 13 => exact nofun
        | 14 => exact nofun
        | n + 15 => exact nofun
      · have tx : Tx H'' (upd H'' P0 (HO.lst (Ls.map (fun t => V.ref t.1) ++ [V.ref L]))) := Tx.mut hP''
        have hLP : L ≠ P0 := fun z => by
          rw [z, hF.1] at hL
          cases hL
        refine ⟨by rw [upd_same, List.map_append]; rfl, fun t ht => ?_, ?_⟩
        · rcases List.mem_append.mp ht with ht | ht
          · obtain ⟨q1, q2, ys, q3, q4⟩ := hF.2.1 t ht
            exact ⟨q1, q2, ys, by rw [upd_ne q2]; exact E''.ex _ _ q3, (q4.ex E''.ex).tx tx (imms_nm t.2)⟩
          · cases List.mem_singleton.mp ht
            exact ⟨ex.back hL, hLP, xs, by show upd _ _ _ L = _; rw [upd_ne hLP]; exact hLx, hLd.tx tx (imms_nm k)⟩
        · rw [List.map_append, List.nodup_append]
          refine ⟨hF.2.2, by simp, fun a ha b hb => ?_⟩
          cases List.mem_singleton.mp hb
          obtain ⟨t, ht, rfl⟩ := List.mem_map.mp ha
          obtain ⟨q1, q2, ys, q3, q4⟩ := hF.2.1 t ht
          intro z
          have z : t.1 = L := z
          rw [z, hL] at q3
          cases q3
end
end Ow
end

section
set_option linter.all false
set_option maxRecDepth 100000
set_option maxHeartbeats 4000000
set_option autoImplicit false
/-! The box of draws: a list that the defs of the law change. -/
namespace Ow
open PySem L2 OwL Om
open PyProof.Rows (envOfC)
def BxOk (g s : Int) : Prop := 0 ≤ g ∧ 1 ≤ s ∧ s ≤ 2147483648
def BxAt (p : Addr) (H : Hp) : Prop := ∃ g s, BxOk g s ∧ H p = some (.lst [.int g, .int s])
def er (p : Addr) (H : Hp) : Hp := fun a => if a = p then none else H a
def Mx (p : Addr) (H H' : Hp) : Prop := ∀ a o, a ≠ p → H a = some o → H' a = some o
theorem er_p (p : Addr) (H : Hp) : er p H p = none := if_pos rfl
theorem er_ne {p a : Addr} (H : Hp) (h : a ≠ p) : er p H a = H a := if_neg h
theorem er_ex (p : Addr) (H : Hp) : Ex (er p H) H := fun a o h => by
  by_cases e : a = p
  · subst e
    rw [er_p] at h
    cases h
  · rw [er_ne H e] at h
    exact h
theorem er_tx {p : Addr} {H : Hp} (b : BxAt p H) : Tx H (er p H) := fun a xs h => by
  obtain ⟨g, s, _, e⟩ := b
  have ne : a ≠ p := fun z => by
    rw [z, e] at h
    cases h
  rw [er_ne H ne]
  exact h
theorem Mx.tx {p : Addr} {H H' : Hp} (m : Mx p H H') (b : BxAt p H) : Tx H H' := fun a xs h => by
  obtain ⟨g, s, _, e⟩ := b
  exact m a _ (fun z => by rw [z, e] at h; cases h) h
theorem Ex.mx {p : Addr} {H H' : Hp} (e : Ex H H') : Mx p H H' := fun a o _ h => e a o h
theorem Mx.trans {p : Addr} {H H1 H2 : Hp} (a : Mx p H H1) (b : Mx p H1 H2) : Mx p H H2 := fun x o n h => b x o n (a x o n h)
theorem BxAt.ex {p : Addr} {H H' : Hp} (b : BxAt p H) (e : Ex H H') : BxAt p H' := by
  obtain ⟨g, s, h, h2⟩ := b
  exact ⟨g, s, h, e _ _ h2⟩
structure BEnv (p : Addr) (A B H : Hp) (σ : L2.St) (S : List Sl) : Prop where
  env : EnvOk A B H σ S
  nb : B p = none
  bx : BxAt p H
  sep : ∀ (i : Nat) (ds : List PyData), S[i]? = some (Sl.lst ds) → σ[i]? ≠ some (some (V.ref p))
section
variable {p : Addr} {A B G H H' : Hp} {σ : L2.St} {S : List Sl}
theorem BEnv.mx (E : BEnv p A B H σ S) (m : Mx p H H') (b : BxAt p H') : BEnv p A B H' σ S := by
  have tx := m.tx E.bx
  refine ⟨⟨E.env.ax, fun a o h => m a o (fun z => by rw [z, E.nb] at h; cases h) (E.env.ex a o h), E.env.len, fun i o s h1 h2 => ?_, E.env.dis⟩, E.nb, b, E.sep⟩
  have q := E.env.sl i o s h1 h2
  cases s with
  | any => trivial
  | fix u => exact q
  | obj C0 fsd0 => exact q
  | pre F0 => exact q
  | arg d => exact q
  | dat d =>
    obtain ⟨a, u, c, r⟩ := q
    exact ⟨a, u, c, r.tx tx a⟩
  | lst ds =>
    obtain ⟨im, q, xs, rfl, q2, q3, q4⟩ := q
    exact ⟨im, q, xs, rfl, q2, m q _ (fun z => E.sep i ds h2 (by rw [h1, z])) q3, q4.tx tx im⟩
theorem BEnv.mono (E : BEnv p A B H σ S) (e : Ex H H') : BEnv p A B H' σ S := E.mx e.mx (E.bx.ex e)
/-- the base may hold the box -/
theorem BEnv.grow (E : BEnv p A B H σ S) : ∃ G : Hp, Ex B G ∧ EnvOk A G H σ S ∧ BxAt p G := by
  obtain ⟨G, bg, EG, hG⟩ := E.env.grow
  obtain ⟨g, s, h, h2⟩ := E.bx
  exact ⟨G, bg, EG, g, s, h, hG _ _ h2 fun ⟨i, ds, h1, h2⟩ => E.sep i ds h1 h2⟩
theorem BEnv.shrink (ax : Ex A B) (nb : B p = none) (e : Ex B G) (b : BxAt p G) (E : EnvOk A G H σ S) : BEnv p A B H σ S := by
  refine ⟨E.base ax e, nb, b.ex E.ex, fun i ds h1 h2 => ?_⟩
  obtain ⟨_, q, xs, q1, q2, _⟩ := E.vlst h1
  rw [h2] at q1
  cases q1
  obtain ⟨g, s, _, k⟩ := b
  rw [q2] at k
  cases k
theorem BEnv.setDat (E : BEnv p A B H σ S) {i : Nat} {v : V} {d : PyData} (im : imm d = true) (h : Dv H v d) : BEnv p A B H (σ.set i (some v)) (S.set i (Sl.dat d)) := by
  refine ⟨E.env.setDat im h, E.nb, E.bx, fun j ds h1 h2 => ?_⟩
  rcases get_set h1 with ⟨_, _, z⟩ | ⟨n, h1⟩
  · cases z
  · rw [List.getElem?_set_ne n] at h2
    exact E.sep j ds h1 h2
theorem BEnv.forgets (E : BEnv p A B H σ S) : ∀ vs : List Nat, BEnv p A B H σ (wipeS S vs)
  | [] => E
  | v :: vs => by
    have ih := BEnv.forgets E vs
    refine ⟨ih.env.forget', ih.nb, ih.bx, fun j ds h1 h2 => ?_⟩
    rcases get_set (show ((wipeS S vs).set v Sl.any)[j]? = some (Sl.lst ds) from h1) with ⟨_, _, z⟩ | ⟨n, h1⟩
    · cases z
    · exact ih.sep j ds h1 h2
theorem BEnv.wiped (E : BEnv p A B H σ S) (vs : List Nat) : BEnv p A B H (wipe σ vs) (wipeS S vs) := by
  refine ⟨E.env.wiped vs, E.nb, E.bx, fun j ds h1 h2 => ?_⟩
  rw [wipe_at] at h2
  by_cases hj : j ∈ vs
  · rw [if_pos hj] at h2
    cases q : σ[j]? with
    | none =>
      rw [q] at h2
      cases h2
    | some o =>
      rw [q] at h2
      cases h2
  · rw [if_neg hj] at h2
    exact (E.forgets vs).sep j ds h1 h2
end
/-! ### expressions that draw -/
def EvX (X : Cx) (e : Expr) (S : List Sl) (p : Addr) (R : PyData → Prop) : Prop := ∀ A B H σ, BEnv p A B H σ S → ∀ Q : VK, (∀ d v H', R d → imm d = true → BEnv p A B H' σ S → Dv H' v d → Mx p H H' → Q v H') → WE X e σ H Q
def spB {α : Type} (enc : α → List PyData) (pre : α → Prop) (out : α → PyData → Prop) : Sp := fun vs H Q _ => ∃ (a : α) (p : Addr) (vs' : List V), vs = .ref p :: vs' ∧ BxAt p H ∧ Dvs (er p H) vs' (enc a) ∧ pre a ∧
  ∀ d v H', out a d → imm d = true → BxAt p H' → Mx p H H' → Dv H' v d → Q v H'
section
variable {X : Cx} {S : List Sl} {p : Addr} {a b e : Expr} {es : List Expr} {d : PyData} {R : PyData → Prop} {pos ps0 : Pos} {x : Str}
theorem EvX.of (h : EvD X e S d) (im : imm d = true) (hr : R d) : EvX X e S p R := fun A B H σ E Q q => h A B H σ E.env Q fun v H' e1 r => q d v H' hr im (E.mono e1) r e1.mx
theorem EvX.imp {R' : PyData → Prop} (h : EvX X e S p R) (hr : ∀ d, R d → R' d) : EvX X e S p R' := fun A B H σ E Q q => h A B H σ E Q fun d v H' o im E' r m => q d v H' (hr d o) im E' r m
/-- arguments behind the box, each drawn -/
def EvXs (X : Cx) (es : List Expr) (S : List Sl) (p : Addr) (R : List PyData → Prop) : Prop := ∀ A B H σ, BEnv p A B H σ S → ∀ Q : List V → Hp → Prop, (∀ ds vs H', R ds → imms ds = true → BEnv p A B H' σ S → Dvs H' vs ds → Mx p H H' → Q vs H') → WA X es σ H Q
theorem exs_nil : EvXs X [] S p (fun ds => ds = []) := fun A B H σ E Q q => ⟨_, pa_nil, q [] [] H rfl rfl E .nil fun _ _ _ h => h⟩
theorem exs_cons {Rs : List PyData → Prop} (h : EvX X e S p R) (hs : EvXs X es S p Rs) (hst : starEach (e :: es) X.env = (false, eval e X.env) :: starEach es X.env := by rfl) : EvXs X (e :: es) S p (fun ds => ∃ y ys, ds = y :: ys ∧ R y ∧ Rs ys) := fun A B H σ E Q q =>
  ⟨_, pa_cons we wa hst, h A B H σ E _ fun d v H1 o im E1 r m => hs A B H1 σ E1 _ fun ds vs H2 os ims E2 rs m2 => q (d :: ds) (v :: vs) H2 ⟨d, ds, rfl, o, os⟩ (imms_cons.mpr ⟨im, ims⟩) E2 (.cons (r.tx (m2.tx E1.bx) im) rs) (m.trans m2)⟩
theorem BEnv.args {A B H : Hp} {σ : L2.St} (E : BEnv p A B H σ S) {vs : List V} {ds : List PyData} (im : imms ds = true) (h : Dvs H vs ds) : Dvs (er p H) vs ds := h.tx (er_tx E.bx) im
/-- f(box, ..) -/
theorem evx_call {α : Type} {enc : α → List PyData} {pre : α → Prop} {out : α → PyData → Prop} {k j : Nat} {pps : List Str} {xb : Str} {Rs : List PyData → Prop} {pb pp : Pos} (F : CalF X.prog X.w X.K X.mg X.base x k pps (spB enc pre out)) (hr : Room j X.A) (i : Nat) (hb : S[i]? = some (Sl.fix (.ref p))) (ha : EvXs X es S p Rs) (hz : ∀ ds, Rs ds → ∃ z, ds = enc z ∧ pre z ∧ ∀ d, out z d → R d)
    (hk : k ≤ j := by decide) (hN : X.N[i]? = some xb := by rfl) (hv : Vis X.env.scope xb := by first | exact Or.inl rfl | exact Or.inr (Or.inl rfl) | exact Or.inr (Or.inr rfl)) (hdb0 : (xb == ("__debug__" : Str)) = false := by decide) (hcd : (xb == ("__classdict__" : Str)) = false := by decide)
    (hg : Gl X x := by rfl) (hdb : (x == ("__debug__" : Str)) = false := by decide) (hst : starEach (.Name xb pb :: es) X.env = (false, eval (.Name xb pb) X.env) :: starEach es X.env := by rfl)
    (hpl : (backTo pos (starEach es X.env)).any (·.1) = false := by rfl) : EvX X (.Call (.Name x pp) (.Name xb pb :: es) [] pos) S p R := fun A B H σ E Q q => by
  obtain ⟨f, fd, h1, h2, h3, h4⟩ := F.ex
  obtain ⟨o, ho, hv0⟩ := E.env.at hb
  cases (show o = some (.ref p) from hv0)
  refine ⟨_, pe_call h4 (hr.mono hk) hg h1 h2 h3 .nil pass0 (pa_cons (pe_var hN hv hdb0 hcd) wa hst) hdb hst hpl, _, ho, ha A B H σ E _ fun ds vs H1 o1 im E1 r1 m1 => ?_⟩
  obtain ⟨z, rfl, hp, hz⟩ := hz ds o1
  refine ⟨z, p, vs, by rw [List.append_nil], E1.bx, E1.args im r1, hp, fun d v H2 o2 im2 b2 m2 r2 => q d v H2 (hz d o2) im2 (E1.mx m2 b2) r2 (m1.trans m2)⟩
theorem opW {f : Value → Value → Sem Value} : OpR X f (fun x y H Q => ∃ r : R2, OpR X f r ∧ r x y H Q) := fun pins s σ H x y v u Q I rx ry ⟨r, o, h⟩ => o pins s σ H x y v u Q I rx ry h
theorem evx_bin {op : Operator} {Ra Rb : PyData → Prop} (ha : EvX X a S p Ra) (hb : EvX X b S p Rb) (o : ∀ da db, Ra da → Rb db → ∃ d, OpD X (binaryOp op) da db d ∧ imm d = true ∧ R d) : EvX X (.BinOp a op b pos) S p R := fun A B H σ E Q q =>
  ⟨_, pe_op opW we we, ha A B H σ E _ fun da v H1 oa ima E1 ra m1 => hb A B H1 σ E1 _ fun db u H2 ob imb E2 rb m2 => by
    obtain ⟨d, ⟨r, o, h⟩, im, hR⟩ := o da db oa ob
    exact ⟨r, o, h H2 v u Q (ra.tx (m2.tx E1.bx) ima) rb fun w H3 e3 r3 => q d w H3 hR im (E2.mono e3) r3 (m1.trans (m2.trans e3.mx))⟩⟩
theorem evx_cmp {op : CmpOp} {Ra Rb : PyData → Prop} (ha : EvX X a S p Ra) (hb : EvX X b S p Rb) (o : ∀ da db, Ra da → Rb db → ∃ k, OpD X (compareOp op) da db (.bool k)) (hm : behindInMarks op b = false := by first | exact nomark _ (by decide) (by decide) | rfl) : ∀ A B H σ, BEnv p A B H σ S → ∀ Q : Bool → Hp → Prop, (∀ k H', BEnv p A B H' σ S → Mx p H H' → Q k H') → WT X (.Compare a [op] [b] pos) σ H Q := fun A B H σ E Q q =>
  ⟨_, pt_cmpR opW we we hm, ha A B H σ E _ fun da v H1 oa ima E1 ra m1 => hb A B H1 σ E1 _ fun db u H2 ob imb E2 rb m2 => by
    obtain ⟨k, r, o, h⟩ := o da db oa ob
    exact ⟨r, o, h H2 v u _ (ra.tx (m2.tx E1.bx) ima) rb fun w H3 e3 r3 => ⟨k, r3.toBl, q k H3 (E2.mono e3) (m1.trans (m2.trans e3.mx))⟩⟩⟩
theorem evx_tup {Rs : List PyData → Prop} {k : Nat} (ha : EvXs X es S p Rs) (hr : ∀ ds, Rs ds → ds.length ≤ 1000 ∧ R (.tuple ds)) : EvX X (.Tuple es k pos) S p R := fun A B H σ E Q q =>
  ⟨_, pe_tup wa, ha A B H σ E _ fun ds vs H1 o im E1 r m => ⟨sz (by rw [r.length]; have := (hr ds o).1; omega), fun t ht => q (.tuple ds) _ _ (hr ds o).2 im (E1.mono (Ex.new ht)) (.tup upd_same (r.ex (Ex.new ht))) (m.trans (Ex.new ht).mx)⟩⟩
end
/-! ### statements that draw -/
structure PB where
  nx : List Sl → Prop
  rt : PyData → Prop := fun _ => False
structure PBOk (p : Addr) (A B : Hp) (P : PB) (D : Ends) : Prop where
  nx : ∀ S' σ' H', P.nx S' → BEnv p A B H' σ' S' → D.nx σ' H'
  rt : ∀ d v H', P.rt d → imm d = true → Ex B H' → BxAt p H' → Dv H' v d → D.rt v H'
def RunB (X : Cx) (sts : List Stmt) (S : List Sl) (p : Addr) (P : PB) : Prop := ∀ A B H σ D, BEnv p A B H σ S → PBOk p A B P D → WSs X sts D σ H
def Run1B (X : Cx) (st : Stmt) (S : List Sl) (p : Addr) (P : PB) : Prop := ∀ A B H σ D, BEnv p A B H σ S → PBOk p A B P D → WS X st D σ H
section
variable {X : Cx} {S : List Sl} {p : Addr} {a b e : Expr} {es : List Expr} {d : PyData} {R : PyData → Prop} {pos : Pos} {x : Str} {P : PB} {st : Stmt} {sts : List Stmt} {ds : List PyData}
theorem runb_nil (h : P.nx S) : RunB X [] S p P := fun A B H σ D E K => ⟨_, pss_nil, K.nx S σ H h E⟩
theorem runb_cons (h : Run1B X st S p { P with nx := fun S' => RunB X sts S' p P }) : RunB X (st :: sts) S p P := fun A B H σ D E K =>
  ⟨_, pss_cons ws wss, h A B H σ { D with nx := WSs X sts D } E ⟨fun S' σ' H' r E' => r A B H' σ' D E' K, K.rt⟩⟩
theorem runb_one (h : Run1B X st S p P) : RunB X [st] S p P := fun A B H σ D E K => ⟨_, pss_one ws, h A B H σ D E K⟩
theorem runb_pure (h : Run1 X st S { nx := P.nx, rt := fun d => P.rt d ∧ imm d = true }) : Run1B X st S p P := fun A B H σ D E K => by
  obtain ⟨G, bg, EG, bx⟩ := E.grow
  exact h A G H σ D EG ⟨fun S' σ' H' q E' => K.nx S' σ' H' q (BEnv.shrink E.env.ax E.nb bg bx E'), fun d v H' q e1 r => K.rt d v H' q.1 q.2 (bg.trans e1) (bx.ex e1) r, fun _ _ _ _ z _ _ _ _ => z.elim⟩
theorem runb_setX (i : Nat) {p' : Pos} (c : Ctx X) (he : EvX X e S p R) (hn : ∀ d, R d → P.nx (S.set i (.dat d))) (hi : X.N[i]? = some x := by rfl) (hx : Loc X.env.scope x := by first | exact Or.inl rfl | exact Or.inr rfl) (hs : swapsWith e (some (.Name x p')) pos.line X.env = pure false := by rfl)
    (hf : X.fn x = true ∨ X.env.scope.names.lookup x = some .local := by first | exact .inl rfl | exact .inr rfl) : Run1B X (.Assign [.Name x p'] e pos) S p P := fun A B H σ D E K =>
  ⟨_, ps_set c.nd hi hx we hs hf, he A B H σ E _ fun d v H' o im E' r m => K.nx _ _ H' (hn d o) (E'.setDat im r)⟩
theorem runb_retX (he : EvX X e S p R) (hd : ∀ d, R d → P.rt d) : Run1B X (.Return (some e) pos) S p P := fun A B H σ D E K => ⟨_, ps_ret we, he A B H σ E _ fun d v H1 o im E' r1 m => K.rt d v H1 (hd d o) im E'.env.ex E'.bx r1⟩
theorem runb_if {A1 B1 : List Stmt} {t : Expr} (h : ∀ A B H σ, BEnv p A B H σ S → ∀ Q : Bool → Hp → Prop, (∀ k H', BEnv p A B H' σ S → Mx p H H' → Q k H') → WT X t σ H Q) (h1 : RunB X A1 S p P) (h2 : RunB X B1 S p P) : Run1B X (.If t A1 B1 pos) S p P := fun A B H σ D E K => ⟨_, ps_if wt wss wss, h A B H σ E _ fun k H1 E1 m => by
  cases k with
  | true => exact h1 A B H1 σ D E1 K
  | false => exact h2 A B H1 σ D E1 K⟩
theorem runb_ifD {A1 B1 : List Stmt} {t : Expr} {k : Bool} (h : EvT X t S k) (h1 : k = true → RunB X A1 S p P) (h2 : k = false → RunB X B1 S p P) : Run1B X (.If t A1 B1 pos) S p P := fun A B H σ D E K => ⟨_, ps_if wt wss wss, h A B H σ E.env _ fun H1 e1 => by
  cases k with
  | true => exact h1 rfl A B H1 σ D (E.mono e1) K
  | false => exact h2 rfl A B H1 σ D (E.mono e1) K⟩
/-- an own list grows by what is drawn -/
theorem runb_appendX (i : Nat) {p1 p2 p3 p4 : Pos} (h : S[i]? = some (Sl.lst ds)) (he : EvX X e S p R) (hz : ds.length < 100000) (hn : ∀ d, R d → P.nx (S.set i (Sl.lst (ds ++ [d])))) (hN : X.N[i]? = some x := by rfl) (hv : Vis X.env.scope x := by first | exact Or.inl rfl | exact Or.inr (Or.inl rfl) | exact Or.inr (Or.inr rfl)) (hdb : (x == ("__debug__" : Str)) = false := by decide)
    (hcd : (x == ("__classdict__" : Str)) = false := by decide) (hbase : attributeBase (.Name x p1) "append" X.env (eval (.Name x p1) X.env) = eval (.Name x p1) X.env := by rfl)
    (hfew : ((backTo p3 (starEach [e] X.env)).all (fun x => !x.1) && (backToKw p3 (keywordEach [] X.env)).all (fun x => x.1.isSome) && decide ([e].length + ([] : List Keyword).length + (if ([] : List Keyword).isEmpty then 0 else 1) < 30)) = true := by rfl)
    (hline : (p2.endLine == p3.line) = true := by rfl) (hs : starEach [e] X.env = (false, eval e X.env) :: starEach [] X.env := by rfl) (hplain : (backTo p3 (starEach [] X.env)).any (·.1) = false := by rfl) (hsw : swapsWith (.Call (.Attribute (.Name x p1) "append" p2) [e] [] p3) none p4.line X.env = pure false := by rfl) :
    Run1B X (.Expr (.Call (.Attribute (.Name x p1) "append" p2) [e] [] p3) p4) S p P := fun A B H σ D E K => by
  obtain ⟨_, q0, ys, h1, _, h3, _⟩ := E.env.vlst h
  refine ⟨_, ps_expr (pe_bm PySem.F.plainAttrs_list PySem.F.slot_list_append PySem.F.type_list_append mt_append (pe_var hN hv hdb hcd) (pa_cons we pa_nil hs) hbase hfew hline hs hplain) hsw, _, h1, .inl ⟨rfl, _, .inl (.inl h3)⟩, he A B H σ E _ fun d v H1 o im E1 r1 m => ?_⟩
  obtain ⟨G, bg, EG, bx⟩ := E1.grow
  obtain ⟨im0, q, xs, k1, k2, k3, k4⟩ := EG.vlst h
  rw [h1] at k1
  cases k1
  refine ⟨q0, xs, v, rfl, rfl, k3, szl (by rw [k4.length]; exact hz), K.nx _ σ _ (hn d o) ?_⟩
  exact BEnv.shrink E.env.ax E.nb bg bx (EG.mutate h h1 (imms_append im0 (imms_cons.mpr ⟨im, rfl⟩)) (k4.append (.cons r1 .nil)))
/-- xs[i] = e -/
theorem runb_setItemX (i : Nat) {p1 p2 p4 : Pos} {z : Int} {j : Nat} (h : S[i]? = some (Sl.lst ds)) (he : EvX X e S p R) (hb : EvD X b S (.int z)) (hj : ixN ds.length z = some j) (hn : ∀ d, R d → P.nx (S.set i (Sl.lst (ds.set j d)))) (hN : X.N[i]? = some x := by rfl) (hv : Vis X.env.scope x := by first | exact Or.inl rfl | exact Or.inr (Or.inl rfl) | exact Or.inr (Or.inr rfl)) (hdb : (x == ("__debug__" : Str)) = false := by decide)
    (hcd : (x == ("__classdict__" : Str)) = false := by decide)
    (ha : ∀ v, assign (.Subscript (.Name x p1) b p2) X.env v = (do
      let ov ← holding [v] (eval (.Name x p1) X.env)
      let iv ← holding [v, ov] (eval b X.env)
      standAt p2
      holding [v, ov, iv] (setItem ov iv v)
      release [v, ov, iv] []) := by intro _; rfl)
    (hs : swapsWithSole [.Subscript (.Name x p1) b p2] e p4.line X.env = pure false := by rfl) (hw : swappedStores [.Subscript (.Name x p1) b p2] e X.env = pure none := by rfl)
    (h1 : (assignEach [.Subscript (.Name x p1) b p2] X.env).map (·.2) = [assign (.Subscript (.Name x p1) b p2) X.env] := by rfl) : Run1B X (.Assign [.Subscript (.Name x p1) b p2] e p4) S p P := fun A B H σ D E K => by
  obtain ⟨_, q0, ys, g1, _, g3, _⟩ := E.env.vlst h
  refine ⟨_, ps_asg we (pg_sub (pe_var hN hv hdb hcd) we set_list ha) hs hw h1, he A B H σ E _ fun d v H1 o im E1 r1 m => ⟨_, g1, hb A B H1 σ E1.env _ fun y H2 e2 r2 => ?_⟩⟩
  have E2 := E1.mono e2
  obtain ⟨G, bg, EG, bx⟩ := E2.grow
  obtain ⟨im0, q, xs, k1, k2, k3, k4⟩ := EG.vlst h
  rw [g1] at k1
  cases k1
  refine ⟨q0, xs, z, j, rfl, r2.toInt, k3, by rw [k4.length]; exact hj, K.nx _ σ _ (hn d o) ?_⟩
  refine BEnv.shrink E.env.ax E.nb bg bx (EG.mutate h g1 (imms_iff.mpr fun w hw => ?_) (k4.set (r1.ex e2) j))
  rcases List.mem_or_eq_of_mem_set hw with q | q
  · exact imms_iff.mp im0 w q
  · rw [q]; exact im
/-- for x in range(e), e drawn -/
theorem runb_forR (i : Nat) {Rn : Nat → Prop} {px pr pc : Pos} {body : List Stmt} (c : Ctx X) (he : EvX X e S p (fun d => ∃ n : Nat, d = eN n ∧ Rn n)) (hbd : ∀ n, Rn n → n < 100000) (Inv : Nat → Nat → List Sl → Prop) (h0 : ∀ n, Rn n → Inv n 0 S)
    (hb : ∀ n j S', Rn n → j < n → Inv n j S' → RunB X body (S'.set i (.dat (eN j))) p { P with nx := fun S'' => ∃ vs, Inv n (j + 1) (wipeS S'' vs) }) (hn : ∀ n S', Rn n → Inv n n S' → P.nx S') (hg : Gl X "range" := by rfl) (hs : starEach [e] X.env = [(false, eval e X.env)] := by rfl) (hs2 : starEach [e] X.env = (false, eval e X.env) :: starEach [] X.env := by rfl)
    (hi : X.N[i]? = some x := by rfl) (hx : Loc X.env.scope x := by first | exact Or.inl rfl | exact Or.inr rfl) (hf : X.fn x = true ∨ X.env.scope.names.lookup x = some .local := by first | exact .inl rfl | exact .inr rfl) (hp : PassesOwn (model X.prog X.w) X.A X.env X.xe := by exact PassesOwn.never) (hss : ∀ x, foldedSetIterable (.Call (.Name "range" pr) [e] [] pc) X.env x = pure x := by intro _; rfl) :
    Run1B X (.For (.Name x px) (.Call (.Name "range" pr) [e] [] pc) body [] pos) S p P := fun A B H σ D E K => by
  refine ⟨_, ps_for hp c.calm (pi_range1 hg c.range (pa_cons we pa_nil hs2) hs) (pg_name c.nd hi hx hf) wss hss, he A B H σ E _ fun d v H1 o im E1 r1 m1 => ?_⟩
  obtain ⟨n, rfl, hR⟩ := o
  refine ⟨(n : Int), by rw [r1.toInt], by omega, by have := hbd n hR; omega, ?_⟩
  refine ⟨fun j m σ2 H2 => m = n - j ∧ j ≤ n ∧ ∃ S', Inv n j S' ∧ BEnv p A B H2 σ2 S', ⟨_, rfl, Nat.zero_le _, S, h0 n hR, E1⟩, ?_⟩
  rintro j m σ2 H2 ⟨rfl, hle, S', hI, E2⟩
  by_cases hlt : j < n
  · refine .inr ⟨hlt, fun σ3 H3 => ∃ S', Inv n (j + 1) S' ∧ BEnv p A B H3 σ3 S', fun σ3 H3 h => ⟨n - (j + 1), by omega, rfl, hlt, h⟩, fun x H3 hy => ?_⟩
    obtain ⟨rfl, rfl⟩ := hy
    rw [show ((0 : Int) + ((j : Nat) : Int)) = ((j : Nat) : Int) from Int.zero_add _]
    refine hb n j S' hR hlt hI A B H3 _ _ (E2.setDat (d := eN j) rfl (.int _)) ⟨fun S3 σ5 H5 ⟨vs, q⟩ E5 => ⟨_, q, E5.forgets vs⟩, K.rt⟩
  · have e : j = n := by omega
    subst e
    exact .inl ⟨Nat.le_refl _, K.nx _ σ2 H2 (hn _ S' hR hI) E2⟩
theorem BEnv.scratch {A B H : Hp} {σ : L2.St} (E : BEnv p A B H σ S) {q : Addr} {xs ys : List V} (hB : B q = none) (hp : H q = some (.lst xs)) (hqp : q ≠ p) (hno : ∀ (i : Nat) (ds : List PyData), S[i]? = some (Sl.lst ds) → σ[i]? ≠ some (some (V.ref q))) : BEnv p A B (upd H q (HO.lst ys)) σ S := by
  refine ⟨⟨E.env.ax, E.env.ex.mut hB, E.env.len, fun i o s h1 h2 => ?_, E.env.dis⟩, E.nb, ?_, E.sep⟩
  · have w := E.env.sl i o s h1 h2
    cases s with
    | any => trivial
    | fix u => exact w
    | obj C0 fsd0 => exact w
    | pre F0 => exact w
    | arg d => exact w
    | dat d =>
      obtain ⟨a, u, b, r⟩ := w
      exact ⟨a, u, b, r.tx (Tx.mut hp) a⟩
    | lst ds =>
      obtain ⟨im, t, zs, rfl, q2, q3, q4⟩ := w
      exact ⟨im, t, zs, rfl, q2, by rw [upd_ne fun z => hno i ds h2 (by rw [h1, z])]; exact q3, q4.tx (Tx.mut hp) im⟩
  · obtain ⟨g, s, h, k⟩ := E.bx
    exact ⟨g, s, h, by rw [upd_ne fun z => hqp z.symm]; exact k⟩
/-- tuple([e for x in range(n)]), e drawn -/
theorem evx_tuplc {scope : Scope} {tg elt e1 : Expr} {n : Nat} {pt pr pc pl ptu : Pos} {Rel : PyData → Prop} (c : Ctx X) (own : List (Str × Nat)) (ok : blkC X.N X.env.scope scope own = true) (hk : EvD X e1 S (eN n)) (hnb : n ≤ 1000) (js : List Nat) (S1 : Nat → List Sl) (hj : ∀ j ∈ js, j ∈ own.map (·.2))
    (hg : ∀ j, j < n → ∀ s H C cl fp, GTo (X.blk s H scope (compEnvC scope cl C X.env) fp) tg (.one (.dat (eN j))) js (wipeS S (own.map (·.2))) (S1 j)) (hel : ∀ j, j < n → ∀ s H C cl fp, EvX (X.blk s H scope (compEnvC scope cl C X.env) fp) elt (S1 j) p Rel) (hR : ∀ ds, ds.length = n → (∀ y ∈ ds, Rel y) → R (.tuple ds))
    (hgr : Gl X "range" := by rfl) (hs : starEach [e1] X.env = [(false, eval e1 X.env)] := by rfl) (hs2 : starEach [e1] X.env = (false, eval e1 X.env) :: starEach [] X.env := by rfl) (hss : ∀ x, foldedSetIterable (.Call (.Name "range" pr) [e1] [] pc) X.env x = pure x := by intro _; rfl)
    (hgt : Gl X "tuple" := by rfl) (he : starEach [.ListComp elt [⟨tg, .Call (.Name "range" pr) [e1] [] pc, [], 0⟩] scope pl] X.env = (false, eval (.ListComp elt [⟨tg, .Call (.Name "range" pr) [e1] [] pc, [], 0⟩] scope pl) X.env) :: starEach [] X.env := by rfl) (hpl : (backTo ptu (starEach [] X.env)).any (·.1) = false := by rfl) :
    EvX X (.Call (.Name "tuple" pt) [.ListComp elt [⟨tg, .Call (.Name "range" pr) [e1] [] pc, [], 0⟩] scope pl] [] ptu) S p R := fun A B H σ E Q q => by
  refine ⟨_, pe_callTy call_tuple_of hgt c.tuple boot_tuple (pa_cons (pe_lc c.calm c.nd (pi_range1 hgr c.range (pa_cons we pa_nil hs2) hs) (blkOk_by ok) (fun s H C cl fp => ⟨fun pins s0 σ H0 v u Q I r (hq : ∀ s H' C cl fp, WG (X.blk s H' scope (compEnvC scope cl C X.env) fp) tg v σ H0 Q) => (hq s H C cl fp).elim fun t ⟨p, q⟩ => p.run pins s0 σ H0 v u Q I r q⟩) (fun s H C cl fp => ⟨fun pins s0 σ H0 Q I (hq : ∀ s H' C cl fp, WTs (X.blk s H' scope (compEnvC scope cl C X.env) fp) [] σ H0 Q) => (hq s H C cl fp).elim fun t ⟨p, q⟩ => p.run pins s0 σ H0 Q I q⟩)
    (fun s H C cl fp => ⟨fun pins s0 σ H0 Q I (hq : ∀ s H' C cl fp, WE (X.blk s H' scope (compEnvC scope cl C X.env) fp) elt σ H0 Q) => (hq s H C cl fp).elim fun t ⟨p, q⟩ => p.run pins s0 σ H0 Q I q⟩) hss) pa_nil he) (by decide) (by decide) he hpl, hk A B H σ E.env _ fun v H1 e1 r1 => ?_⟩
  refine ⟨(n : Int), by rw [r1.toInt], by omega, by omega, fun Dl nD => ?_⟩
  have E1 := E.mono e1
  have nDp : Dl ≠ p := fun z => by
    obtain ⟨g, s, _, k⟩ := E1.bx
    rw [z, k] at nD
    cases nD
  have nB : B Dl = none := E1.env.ex.back nD
  have nO : ∀ (i : Nat) (ds : List PyData), S[i]? = some (Sl.lst ds) → σ[i]? ≠ some (some (V.ref Dl)) := fun i ds h1 h2 => by
    obtain ⟨_, t, xs, g1, _, g3, _⟩ := E1.env.vlst h1
    rw [h2] at g1
    cases g1
    rw [nD] at g3
    cases g3
  refine ⟨fun j m H2 => m = n - j ∧ j ≤ n ∧ ∃ done us, BEnv p A B H2 σ S ∧ H2 Dl = some (.lst us) ∧ Dvs H2 us done ∧ imms done = true ∧ done.length = j ∧ (∀ y ∈ done, Rel y) ∧ ∀ a o, a ≠ p → H a = some o → H2 a = some o,
    ⟨_, rfl, Nat.zero_le _, [], [], E1.mono (Ex.new nD), upd_same, .nil, rfl, rfl, fun _ h => by simp at h, e1.mx.trans (Ex.new nD).mx⟩, ?_⟩
  rintro j m H2 ⟨rfl, hle, done, us, E2, hD, hus, him, hdl, hrel, hmx⟩
  by_cases hlt : j < n
  · refine .inr ⟨hlt, fun H3 => ∃ done us, BEnv p A B H3 σ S ∧ H3 Dl = some (.lst us) ∧ Dvs H3 us done ∧ imms done = true ∧ done.length = j + 1 ∧ (∀ y ∈ done, Rel y) ∧ ∀ a o, a ≠ p → H a = some o → H3 a = some o, fun H3 h => ⟨n - (j + 1), by omega, rfl, hlt, h⟩, fun x H3 hy => ?_⟩
    obtain ⟨rfl, rfl⟩ := hy
    rw [show ((0 : Int) + ((j : Nat) : Int)) = ((j : Nat) : Int) from Int.zero_add _]
    obtain ⟨G, bg, EG, bx⟩ := (E2.wiped (own.map (·.2))).grow
    intro s H' C cl fp
    refine hg j hlt s H' C cl fp A G H3 (wipe σ (own.map (·.2))) (.int ((j : Nat) : Int)) EG ⟨rfl, .int _⟩ _ ?_
    intro σ4 E4 w4
    refine ⟨(w4 _ hj).trans wipe_idem, ?_⟩
    have B4 := BEnv.shrink E.env.ax E.nb bg bx E4
    intro s H' C cl fp
    refine ets_nil A B H3 σ4 B4.env _ ?_
    intro H5 e5
    rw [if_pos rfl]
    intro s H' C cl fp
    refine hel j hlt s H' C cl fp A B H5 σ4 (B4.mono e5) _ ?_
    intro y v H6 hy imy B6 r6 m56
    have m6 := Mx.trans e5.mx m56
    have E6 := E2.mx m6 B6.bx
    have hD6 := m6 _ _ nDp hD
    have t36 := m6.tx E2.bx
    refine ⟨us, hD6, szl (by have := hus.length; omega), done ++ [y], us ++ [v], E6.scratch nB hD6 nDp nO, upd_same, ?_, imms_append him (imms_cons.mpr ⟨imy, rfl⟩), by rw [List.length_append, hdl]; rfl, fun w hw => ?_, fun a o na ha => ?_⟩
    · exact ((hus.tx t36 him).append (.cons r6 .nil)).tx (Tx.mut hD6) (imms_append him (imms_cons.mpr ⟨imy, rfl⟩))
    · rcases List.mem_append.mp hw with k | k
      · exact hrel w k
      · cases List.mem_singleton.mp k
        exact hy
    · have h6 := m6 a o na (hmx a o na ha)
      by_cases z : a = Dl
      · subst z
        rw [e1 _ _ ha] at nD
        cases nD
      · rw [upd_ne z]
        exact h6
  · have e : j = n := by omega
    subst e
    refine .inl ⟨Nat.le_refl _, Dl, us, rfl, .inl ⟨.inl (.inl hD), fun t ht => ?_⟩⟩
    exact q (.tuple done) _ _ (hR done hdl hrel) him (E2.mono (Ex.new ht)) (.tup upd_same (hus.ex (Ex.new ht))) (Mx.trans hmx (Ex.new ht).mx)
end
section
variable {P : Program} {w : World} {K : PySem.W.Frag} {mg : Str → Option Value} {base : Heap} {x qual : Str} {params : Arguments} {body : List Stmt} {scope : Scope} {f : Addr} {fd : FuncData} {N ps : List Str} {k : Nat} {α : Type} {enc : α → List PyData} {pre : α → Prop}
theorem env_startB {H : Hp} {p : Addr} {vs : List V} {ds : List PyData} {as : List Sl} (bx : BxAt p H) (h : Dvs (er p H) vs ds) (ha : as.length = ds.length) (hs : ∀ (i : Nat) (d : PyData) (s : Sl), ds[i]? = some d → as[i]? = some s → s = .any ∨ s = .arg d ∨ (s = .dat d ∧ imm d = true)) : BEnv p (er p H) (er p H) H (L2.start N (.ref p :: vs)) (startD N (.fix (.ref p) :: as)) := by
  have hl := h.length
  have hno : ∀ (i : Nat) (es : List PyData), (startD N (.fix (.ref p) :: as))[i]? ≠ some (Sl.lst es) := fun i es h1 => by
    unfold startD at h1
    by_cases hi : i < (Sl.fix (.ref p) :: as).length
    · rw [List.getElem?_append_left hi] at h1
      cases i with
      | zero => cases h1
      | succ i =>
        have h1 : as[i]? = some (Sl.lst es) := h1
        have hd : i < ds.length := by rw [← ha]; exact (List.getElem?_eq_some_iff.mp h1).1
        rcases hs i ds[i] _ (List.getElem?_eq_getElem hd) h1 with q | q | ⟨q, _⟩ <;> cases q
    · rw [List.getElem?_append_right (by omega), List.getElem?_replicate] at h1
      split at h1 <;> cases h1
  refine ⟨⟨Ex.refl _, er_ex p H, ?_, fun i o s h1 h2 => ?_, fun i j es fs q h1 => absurd h1 (hno i es)⟩, er_p p H, bx, fun i es h1 => absurd h1 (hno i es)⟩
  · unfold L2.start startD
    rw [List.length_append, List.length_append, List.length_map, List.length_replicate, List.length_replicate, List.length_cons, List.length_cons, hl, ha]
  · unfold startD at h2
    unfold L2.start at h1
    by_cases hi : i < (Sl.fix (.ref p) :: as).length
    · rw [List.getElem?_append_left hi] at h2
      rw [List.length_cons] at hi
      rw [List.getElem?_append_left (by rw [List.length_map, List.length_cons]; omega), List.getElem?_map] at h1
      cases i with
      | zero =>
        cases h1
        cases h2
        rfl
      | succ i =>
        have hv : i < vs.length := by omega
        have h2 : as[i]? = some s := h2
        rw [List.getElem?_cons_succ, List.getElem?_eq_getElem hv] at h1
        cases h1
        obtain ⟨d, hd, r⟩ := h.get (List.getElem?_eq_getElem hv)
        rcases hs i d s hd h2 with rfl | rfl | ⟨rfl, im⟩
        · trivial
        · exact ⟨_, rfl, r⟩
        · exact ⟨im, _, rfl, r.ex (er_ex p H)⟩
    · rw [List.getElem?_append_right (by omega), List.getElem?_replicate] at h2
      split at h2
      · cases h2
        trivial
      · cases h2
/-- a def that draws -/
theorem fn_B {out : α → PyData → Prop} (F : FunD K x qual params body scope [] [] f fd) (S : FnScope N ps scope) (hl : ∀ a, (enc a).length + 1 = ps.length) (as : α → List Sl) (has : ∀ a, pre a → (as a).length = (enc a).length ∧ ∀ (i : Nat) (d : PyData) (s : Sl), (enc a)[i]? = some d → (as a)[i]? = some s → s = .any ∨ s = .arg d ∨ (s = .dat d ∧ imm d = true))
    (hb : ∀ a, pre a → ∀ (p : Addr) (cdv : Value) (A : Around) (outer : List Env) (s : Shared) (H : Hp) (E : XK), Room k (A.deeper (envOfC qual scope s.heap.objs.size f cdv)) →
      RunB (bX P w K mg base N qual scope f cdv A outer s H E) body (startD N (.fix (.ref p) :: as a)) p { nx := fun _ => False, rt := fun d => out a d }) : FnOk P w K mg base CX0 (k + 1) f fd ps (spB enc pre out) := by
  refine F.ok S (fun vs H Q E ⟨a, p, vs', e, _, r, _⟩ => by rw [e, List.length_cons, r.length]; exact hl a) fun cdv A outer s H vs Q E hr ⟨a, p, vs', e, bx, r, hp, q⟩ => ?_
  subst e
  obtain ⟨h1, h2⟩ := has a hp
  obtain ⟨t, pp, g⟩ := hb a hp p cdv A outer s H E hr (er p H) (er p H) H (L2.start N (.ref p :: vs')) { nx := fun _ H' => Q .non H', rt := Q } (env_startB bx r h1 h2) ⟨fun _ _ _ z _ => z.elim, fun d v H' e1 im e2 b e3 => q d v H' e1 im b (fun a o na ha => e2 a o (by rw [er_ne H na]; exact ha)) e3⟩
  exact ⟨t, pp.nox, g⟩
end
end Ow
end

section
set_option linter.all false
set_option maxRecDepth 100000
set_option maxHeartbeats 4000000
set_option autoImplicit false
/-! Defs: the law, draws. -/
namespace Ow
open PySem L2 OwL Om
open PyProof.Rows (envOfC)

theorem EvD.use {X : Cx} {e : Expr} {S : List Sl} {d : PyData} {A B H : Hp} {σ : L2.St} (E : EnvOk A B H σ S) (h : EvD X e S d) {Q : VK} (q : ∀ v H', Ex H H' → Dv H' v d → Q v H') : WE X e σ H Q := h A B H σ E Q q
theorem EvT.use {X : Cx} {e : Expr} {S : List Sl} {k : Bool} {A B H : Hp} {σ : L2.St} (E : EnvOk A B H σ S) (h : EvT X e S k) {Q : Bool → Hp → Prop} (q : ∀ H', Ex H H' → Q k H') : WT X e σ H Q := h A B H σ E Q q
abbrev s_lw_take : Stmt := top 91
abbrev N_lw_take : List Str := ["_law_box_here", "_law_many", "_law_digit", "_law_raw"]
theorem sc_lw_take : FnScope N_lw_take ["_law_box_here", "_law_many"] (defScope s_lw_take) := ⟨rfl, rfl, rfl, by decide +kernel, rfl, by decide +kernel, by decide +kernel⟩
abbrev T_lw_take (P : Program) (w : World) (K : PySem.W.Frag) (mg : Str → Option Value) (base : Heap) : Prop := CalF P w K mg base "_law_take" 1 ["_law_box_here", "_law_many"] (spB (α := Nat) (fun n => [eN n]) (fun n => 1 ≤ n ∧ n ≤ 1000) fun n d => ∃ r, d = eN r ∧ r < n)
section
variable {P : Program} {w : World} {K : PySem.W.Frag} {mg : Str → Option Value} {base : Heap}
theorem c_lw_take (B : Blt mg) (D : DefAt K mg "_law_take" s_lw_take) : T_lw_take P w K mg base := by
  obtain ⟨f, fd, h1, F⟩ := D.ex
  refine ⟨f, fd, h1, F.kp, F.bindsN fun _ _ _ _ _ _ us hl => match us, hl with | [_, _], _ => rfl, ?_⟩
  refine F.ok sc_lw_take (fun vs H Q E ⟨a, p, vs', e, _, r, _⟩ => by rw [e, List.length_cons, r.length]; rfl) fun cdv A outer s H vs Q E hr ⟨n, p, vs', e, bx, r, hp, q⟩ => ?_
  subst e
  obtain ⟨v, rfl, rv⟩ := r.one
  rw [rv.toInt] at *
  have c := ctx_of (P := P) (w := w) (K := K) (base := base) (f := f) (cdv := cdv) (outer := outer) (H := H) (E := E) B sc_lw_take.nd hr
  obtain ⟨g, s0, ⟨hg, hs1, hs2⟩, hH⟩ := bx
  have hn := hp.1
  have hn2 := hp.2
  have mk : ∀ (H' : Hp) (x y : Int), H' p = some (.lst [.int x, .int y]) → EnvOk H' H' H' (L2.start N_lw_take [.ref p, .int (n : Int)]) [.arg (.list [.int x, .int y]), .arg (eN n), .any, .any] := fun H' x y h => env_start (N := N_lw_take) (ds := [.list [.int x, .int y], eN n]) (as := [.arg (.list [.int x, .int y]), .arg (eN n)]) (.cons (.lst h (.cons (.int _) (.cons (.int _) .nil))) (.cons (.int _) .nil)) rfl (as_ok (ds := [.list [.int x, .int y], eN n]) (as := [.arg (.list [.int x, .int y]), .arg (eN n)]) ⟨aA, aA, trivial⟩).2
  have E0 := mk H g s0 hH
  have fin : ∀ (r : Int) (H' : Hp) (x y : Int), 0 ≤ r → r < n → BxOk x y → Ex H H' → Q (.int r) (upd H' p (.lst [.int x, .int y])) := fun r H' x y h0 h1 hb e => by
    refine q (eN r.toNat) (.int r) _ ⟨r.toNat, rfl, by omega⟩ rfl ⟨x, y, hb, upd_same⟩ (fun a o na ha => by rw [upd_ne na]; exact e a o ha) ?_
    rw [show V.int r = V.int ((r.toNat : Nat) : Int) by rw [Int.toNat_of_nonneg h0]]
    exact .int _
  suffices h : WSs (bX P w K mg base N_lw_take "_law_take" (defScope s_lw_take) f cdv A outer s H E) (defBody s_lw_take) { nx := fun _ H' => Q .non H', rt := Q } (L2.start N_lw_take [.ref p, .int (n : Int)]) H by
    obtain ⟨t, pp, g⟩ := h
    exact ⟨t, pp.nox, g⟩
  refine ⟨_, pss_cons (ps_if wt wss wss) wss, EvT.use E0 (et_cmp od_gt (ev_ixL (i := 0) (d := .int g) (ds := [.int g, .int s0]) (ev_var 0 rfl rfl) ev_int rfl) ev_int) fun H1 e1 => ?_⟩
  by_cases hpos : 0 < g
  · rw [decide_eq_true hpos]
    show WSs _ _ _ _ _
    refine ⟨_, pss_cons (ps_set (i := 2) c.nd rfl (Or.inl rfl) we rfl (Or.inl rfl)) (pss_cons (ps_asg we (pg_sub (pe_var (i := 0) rfl (Or.inl rfl) (by decide) (by decide)) we set_list (by intro _; rfl)) rfl rfl rfl) (pss_one (ps_ret (pe_var (i := 2) rfl (Or.inl rfl) (by decide) (by decide))))), ?_⟩
    refine EvD.use (E0.mono e1) (ev_bin (od_mod (j := (n : Int)) (by omega)) (ev_ct ca_int c.int boot_int (eds_one (ev_ixL (i := 0) (d := .int g) (ds := [.int g, .int s0]) (ev_var 0 rfl rfl) ev_int rfl))) (ev_var 1 rfl rfl)) fun v H2 e2 r2 => ?_
    rw [r2.toInt]
    have e12 := e1.trans e2
    have E2 : EnvOk H H H2 ((L2.start N_lw_take [.ref p, .int (n : Int)]).set 2 (some (.int (g % n)))) _ := (E0.mono e12).setDat (i := 2) (d := .int (g % n)) rfl (.int _)
    refine EvD.use E2 (ev_bin (od_fdiv (i := g) (j := (n : Int)) ⟨by omega, by omega⟩) (ev_ixL (i := 0) (d := .int g) (ds := [.int g, .int s0]) (ev_var 0 rfl rfl) ev_int rfl) (ev_var 1 rfl rfl)) fun v H3 e3 r3 => ?_
    rw [r3.toInt]
    refine ⟨_, rfl, EvD.use (E2.mono e3) (ev_int (i := 0)) fun y H4 e4 r4 => ?_⟩
    refine ⟨p, [.int g, .int s0], 0, 0, rfl, r4.toInt, (e12.trans (e3.trans e4)) _ _ hH, rfl, _, rfl, ?_⟩
    exact fin (g % n) H4 (g / n) s0 (Int.emod_nonneg _ (by omega)) (Int.emod_lt_of_pos _ (by omega)) ⟨Int.ediv_nonneg hg (by omega), hs1, hs2⟩ (e12.trans (e3.trans e4))
  · rw [decide_eq_false hpos]
    show WSs _ _ _ _ _
    refine ⟨_, pss_nil, ?_⟩
    show WSs _ _ _ _ _
    refine ⟨_, pss_cons (ps_set (i := 3) c.nd rfl (Or.inl rfl) we rfl (Or.inl rfl)) (pss_cons (ps_asg we (pg_sub (pe_var (i := 0) rfl (Or.inl rfl) (by decide) (by decide)) we set_list (by intro _; rfl)) rfl rfl rfl) (pss_one (ps_ret we))), ?_⟩
    refine EvD.use (E0.mono e1) (ev_bin (od_mod (by decide)) (ev_ct ca_int c.int boot_int (eds_one (ev_bin od_add (ev_bin (od_mul (.inl ⟨by omega, by omega⟩)) (ev_ixL (i := 1) (d := .int s0) (ds := [.int g, .int s0]) (ev_var 0 rfl rfl) ev_int rfl) ev_int) ev_int))) ev_int) fun v H2 e2 r2 => ?_
    rw [r2.toInt]
    have r0 := Int.emod_nonneg (s0 * 39373 + 331) (by decide : (2147483647 : Int) ≠ 0)
    have r1 := Int.emod_lt_of_pos (s0 * 39373 + 331) (by decide : (0 : Int) < 2147483647)
    generalize (s0 * 39373 + 331) % 2147483647 = rw0 at r0 r1 ⊢
    have e12 := e1.trans e2
    have E2 : EnvOk H H H2 ((L2.start N_lw_take [.ref p, .int (n : Int)]).set 3 (some (.int rw0))) _ := (E0.mono e12).setDat (i := 3) (d := .int rw0) rfl (.int _)
    refine EvD.use E2 (ev_bin od_add (ev_bin (od_mod (by decide)) (ev_ct ca_int c.int boot_int (eds_one (ev_bin od_add (ev_bin (od_mul (.inl ⟨by omega, by omega⟩)) (ev_var 3 rfl rfl) ev_int) ev_int))) ev_int) ev_int) fun v H3 e3 r3 => ?_
    rw [r3.toInt]
    have q0 := Int.emod_nonneg (rw0 * 40692 + 37) (by decide : (2147483399 : Int) ≠ 0)
    have q1 := Int.emod_lt_of_pos (rw0 * 40692 + 37) (by decide : (0 : Int) < 2147483399)
    generalize (rw0 * 40692 + 37) % 2147483399 = s1 at q0 q1 ⊢
    refine ⟨_, rfl, EvD.use (E2.mono e3) (ev_int (i := 1)) fun y H4 e4 r4 => ?_⟩
    refine ⟨p, [.int g, .int s0], 1, 1, rfl, r4.toInt, (e12.trans (e3.trans e4)) _ _ hH, rfl, ?_⟩
    show WE _ _ _ _ _
    have E5 : EnvOk _ _ (upd H4 p (HO.lst [.int g, .int (s1 + 1)])) ((L2.start N_lw_take [.ref p, .int (n : Int)]).set 3 (some (.int rw0))) _ := (mk _ g (s1 + 1) upd_same).setDat (i := 3) (d := .int rw0) rfl (.int _)
    refine EvD.use E5 (ev_bin (od_mod (j := (n : Int)) (by omega)) (ev_ct ca_int c.int boot_int (eds_one (ev_bin (od_fdiv ⟨by decide, by decide⟩) (ev_bin od_add (ev_bin (od_mul (.inl ⟨by omega, by omega⟩)) (ev_var 3 rfl rfl) ev_int) (ev_ixL (i := 1) (d := .int (s1 + 1)) (ds := [.int g, .int (s1 + 1)]) (ev_var 0 rfl rfl) ev_int rfl)) ev_int))) (ev_var 1 rfl rfl)) fun v H6 e6 r6 => ?_
    rw [r6.toInt]
    refine q (eN ((rw0 * 2147483629 + (s1 + 1)) / 8209 % (n : Int)).toNat) _ _ ⟨_, rfl, ?_⟩ rfl ⟨g, s1 + 1, ⟨hg, by omega, by omega⟩, e6 _ _ upd_same⟩ (fun a o na ha => e6 _ _ (by rw [upd_ne na]; exact (e12.trans (e3.trans e4)) a o ha)) ?_
    · have := Int.emod_lt_of_pos ((rw0 * 2147483629 + (s1 + 1)) / 8209) (show (0 : Int) < n by omega)
      have := Int.emod_nonneg ((rw0 * 2147483629 + (s1 + 1)) / 8209) (show (n : Int) ≠ 0 by omega)
      omega
    · have := Int.emod_nonneg ((rw0 * 2147483629 + (s1 + 1)) / 8209) (show (n : Int) ≠ 0 by omega)
      rw [show V.int ((rw0 * 2147483629 + (s1 + 1)) / 8209 % (n : Int)) = V.int ((((rw0 * 2147483629 + (s1 + 1)) / 8209 % (n : Int)).toNat : Nat) : Int) by rw [Int.toNat_of_nonneg this]]
      exact .int _
end

end Ow
end

section
set_option linter.all false
set_option maxRecDepth 100000
set_option maxHeartbeats 4000000
set_option autoImplicit false
/-! Defs: the law, draws. -/
namespace Ow
open PySem L2 OwL Om
open PyProof.Rows (envOfC)

section
variable {X : Cx} {S : List Sl} {p : Addr} {a b e t : Expr} {es : List Expr} {d : PyData} {R : PyData → Prop} {pos : Pos} {x : Str} {P : PB} {ds : List PyData}
theorem evx_take {P0 : Program} {j n : Nat} {xb : Str} {pb pp : Pos} (F : T_lw_take X.prog X.w X.K X.mg X.base) (hr : Room j X.A) (i : Nat) (hb : S[i]? = some (Sl.fix (.ref p))) (he : EvD X e S (eN n)) (hn : 1 ≤ n) (hn2 : n ≤ 1000)
    (hk : 1 ≤ j := by decide) (hN : X.N[i]? = some xb := by rfl) (hv : Vis X.env.scope xb := by first | exact Or.inl rfl | exact Or.inr (Or.inl rfl) | exact Or.inr (Or.inr rfl)) (hdb0 : (xb == ("__debug__" : Str)) = false := by decide) (hcd : (xb == ("__classdict__" : Str)) = false := by decide)
    (hg : Gl X "_law_take" := by rfl) (hst : starEach [.Name xb pb, e] X.env = (false, eval (.Name xb pb) X.env) :: starEach [e] X.env := by rfl) (hst2 : starEach [e] X.env = (false, eval e X.env) :: starEach [] X.env := by rfl)
    (hpl : (backTo pos (starEach [e] X.env)).any (·.1) = false := by rfl) : EvX X (.Call (.Name "_law_take" pp) [.Name xb pb, e] [] pos) S p (fun d => ∃ r, d = eN r ∧ r < n) :=
  evx_call F hr i hb (exs_cons (EvX.of (R := fun d => d = eN n) he rfl rfl) exs_nil hst2) (fun ds ⟨y, ys, e1, e2, e3⟩ => ⟨n, by rw [e1, e2, e3], ⟨hn, hn2⟩, fun d h => h⟩) hk hN hv hdb0 hcd hg (by decide) hst hpl
theorem evx_ixArg {px : Pos} (i : Nat) (h : S[i]? = some (Sl.arg (.list ds))) (hb : EvX X b S p (fun d => ∃ r, d = eN r ∧ r < ds.length)) (hR : ∀ (r : Nat) (d : PyData), ds[r]? = some d → R d ∧ imm d = true) (hs : PlainIx b := by intro _ _; rfl)
    (hN : X.N[i]? = some x := by rfl) (hv : Vis X.env.scope x := by first | exact Or.inl rfl | exact Or.inr (Or.inl rfl) | exact Or.inr (Or.inr rfl)) (hdb : (x == ("__debug__" : Str)) = false := by decide) (hcd : (x == ("__classdict__" : Str)) = false := by decide) : EvX X (.Subscript (.Name x px) b pos) S p R := fun A B H σ E Q q => by
  obtain ⟨v, h1, h2⟩ := E.env.varg h
  obtain ⟨q0, xs, rfl, k1, k2⟩ := h2.toLst
  have nq : q0 ≠ p := fun z => by
    have := E.env.ax _ _ k1
    rw [z, E.nb] at this
    cases this
  have hq := E.env.ex _ _ (E.env.ax _ _ k1)
  refine ⟨_, pe_ix ix_list (pe_var hN hv hdb hcd) we hs, _, h1, hb A B H σ E _ fun d v H1 o im E1 r1 m => ?_⟩
  obtain ⟨r, rfl, hr⟩ := o
  obtain ⟨u, k3, k4⟩ := k2.get' (List.getElem?_eq_getElem hr)
  obtain ⟨h5, h6⟩ := hR r _ (List.getElem?_eq_getElem hr)
  refine ⟨q0, xs, ((r : Nat) : Int), u, rfl, r1.toInt, .inl (.inl (m _ _ nq hq)), ?_, q _ _ H1 h5 h6 E1 ((k4.ex (E1.env.ax.trans E1.env.ex))) m⟩
  have hl : r < xs.length := (List.getElem?_eq_some_iff.mp k3).1
  unfold atI
  rw [ixN_nat hl]
  exact k3
/-- tests that draw -/
def EtX (X : Cx) (t : Expr) (S : List Sl) (p : Addr) : Prop := ∀ A B H σ, BEnv p A B H σ S → ∀ Q : Bool → Hp → Prop, (∀ k H', BEnv p A B H' σ S → Mx p H H' → Q k H') → WT X t σ H Q
theorem EtX.of {k : Bool} (h : EvT X t S k) : EtX X t S p := fun A B H σ E Q q => h A B H σ E.env Q fun H' e => q k H' (E.mono e) e.mx
theorem etx_and (h1 : EtX X a S p) (h2 : EtX X b S p) : EtX X (.BoolOp .And [a, b] pos) S p := fun A B H σ E Q q => ⟨_, (pw_and wt (pw_and1 wt)).pt, h1 A B H σ E _ fun k H1 E1 m => by
  cases k with
  | false => exact q false H1 E1 m
  | true => exact h2 A B H1 σ E1 _ fun k H2 E2 m2 => q k H2 E2 (m.trans m2)⟩
theorem runb_ifX {A1 B1 : List Stmt} (h : EtX X t S p) (h1 : RunB X A1 S p P) (h2 : RunB X B1 S p P) : Run1B X (.If t A1 B1 pos) S p P := runb_if h h1 h2
/-- xs[b1], xs[b2] = e1, e2 -/
theorem run_two (i : Nat) {P : Pst} {e1 e2 b1 b2 : Expr} {d1 d2 : PyData} {z1 z2 : Int} {j1 j2 kt k2 : Nat} {p1 p2 q1 q2 pt pt2 p4 : Pos} (c : Ctx X) (h : S[i]? = some (Sl.lst ds)) (he1 : EvD X e1 S d1) (he2 : EvD X e2 S d2) (im1 : imm d1 = true) (im2 : imm d2 = true) (hb1 : EvD X b1 S (.int z1)) (hb2 : EvD X b2 (S.set i (Sl.lst (ds.set j1 d1))) (.int z2)) (hj1 : ixN ds.length z1 = some j1) (hj2 : ixN ds.length z2 = some j2)
    (hn : P.nx (S.set i (Sl.lst ((ds.set j1 d1).set j2 d2)))) (hN : X.N[i]? = some x := by rfl) (hv : Vis X.env.scope x := by first | exact Or.inl rfl | exact Or.inr (Or.inl rfl) | exact Or.inr (Or.inr rfl)) (hdb : (x == ("__debug__" : Str)) = false := by decide) (hcd : (x == ("__classdict__" : Str)) = false := by decide)
    (ha : ∀ v, assign (.Subscript (.Name x p1) b1 q1) X.env v = (do
      let ov ← holding [v] (eval (.Name x p1) X.env)
      let iv ← holding [v, ov] (eval b1 X.env)
      standAt q1
      holding [v, ov, iv] (setItem ov iv v)
      release [v, ov, iv] []) := by intro _; rfl)
    (ha2 : ∀ v, assign (.Subscript (.Name x p2) b2 q2) X.env v = (do
      let ov ← holding [v] (eval (.Name x p2) X.env)
      let iv ← holding [v, ov] (eval b2 X.env)
      standAt q2
      holding [v, ov, iv] (setItem ov iv v)
      release [v, ov, iv] []) := by intro _; rfl)
    (g1 : (assignEach [.Subscript (.Name x p1) b1 q1, .Subscript (.Name x p2) b2 q2] X.env).map (·.2) = assign (.Subscript (.Name x p1) b1 q1) X.env :: (assignEach [.Subscript (.Name x p2) b2 q2] X.env).map (·.2) := by rfl) (g2 : (assignEach [.Subscript (.Name x p2) b2 q2] X.env).map (·.2) = assign (.Subscript (.Name x p2) b2 q2) X.env :: (assignEach [] X.env).map (·.2) := by rfl)
    (gn : (assignEach [.Subscript (.Name x p1) b1 q1, .Subscript (.Name x p2) b2 q2] X.env).length = 2 := by rfl) (gst : (assignEach [.Subscript (.Name x p1) b1 q1, .Subscript (.Name x p2) b2 q2] X.env).findIdx? (·.1) = none := by rfl)
    (hs : swapsWithSole [.Tuple [.Subscript (.Name x p1) b1 q1, .Subscript (.Name x p2) b2 q2] kt pt] (.Tuple [e1, e2] k2 pt2) p4.line X.env = pure false := by rfl) (hw : swappedStores [.Tuple [.Subscript (.Name x p1) b1 q1, .Subscript (.Name x p2) b2 q2] kt pt] (.Tuple [e1, e2] k2 pt2) X.env = pure none := by rfl)
    (h0 : (assignEach [.Tuple [.Subscript (.Name x p1) b1 q1, .Subscript (.Name x p2) b2 q2] kt pt] X.env).map (·.2) = [assign (.Tuple [.Subscript (.Name x p1) b1 q1, .Subscript (.Name x p2) b2 q2] kt pt) X.env] := by rfl) (h1 : starEach [e1, e2] X.env = (false, eval e1 X.env) :: starEach [e2] X.env := by rfl) (h2 : starEach [e2] X.env = (false, eval e2 X.env) :: starEach [] X.env := by rfl) :
    Run1 X (.Assign [.Tuple [.Subscript (.Name x p1) b1 q1, .Subscript (.Name x p2) b2 q2] kt pt] (.Tuple [e1, e2] k2 pt2) p4) S P := fun A B H σ D E K => by
  obtain ⟨im0, q0, xs, k1, k2', k3, k4⟩ := E.vlst h
  refine ⟨_, ps_asg (pe_tup (pa_cons we (pa_cons we pa_nil h2) h1)) (pg_tup c.calm (pgs_cons (pg_sub (pe_var hN hv hdb hcd) we set_list ha) (pgs_cons (pg_sub (pe_var hN hv hdb hcd) we set_list ha2) pgs_nil g2) g1) gn gst) hs hw h0, he1 A B H σ E _ fun v1 H1 x1 r1 => he2 A B H1 σ (E.mono x1) _ fun v2 H2 x2 r2 => ⟨by show 2 ≤ sizeLine; decide, fun tp htp => ?_⟩⟩
  have x3 : Ex H2 (upd H2 tp (.tup [v1, v2])) := Ex.new htp
  have x03 := (x1.trans x2).trans x3
  refine ⟨tp, [v1, v2], rfl, .inl (.inl upd_same), rfl, _, _, rfl, _, k1, hb1 A B _ σ (E.mono x03) _ fun y H4 x4 r4 => ?_⟩
  have x04 := x03.trans x4
  refine ⟨q0, xs, z1, j1, rfl, r4.toInt, x04 _ _ k3, by rw [k4.length]; exact hj1, ?_⟩
  have E4 := (E.mono x04).mutate h k1 (imms_iff.mpr fun w hw => (List.mem_or_eq_of_mem_set hw).elim (imms_iff.mp im0 w) fun q => q ▸ im1) ((k4.ex x04).set (r1.ex (x2.trans (x3.trans x4))) j1)
  refine ⟨_, _, rfl, _, k1, hb2 A B _ σ E4 _ fun y2 H5 x5 r5 => ?_⟩
  have hi : i < S.length := (List.getElem?_eq_some_iff.mp h).1
  obtain ⟨im4, q4, xs4, l1, l2, l3, l4⟩ := (E4.mono x5).vlst (i := i) (List.getElem?_set_self hi)
  rw [k1] at l1
  cases l1
  refine ⟨q0, xs4, z2, j2, rfl, r5.toInt, l3, by rw [l4.length, List.length_set]; exact hj2, rfl, ?_⟩
  have r2' : Dv H5 v2 d2 := ((r2.ex (x3.trans x4)).tx (Tx.mut (x04 _ _ k3)) im2).ex x5
  have E5 := (E4.mono x5).mutate (List.getElem?_set_self hi) k1 (imms_iff.mpr fun w hw => (List.mem_or_eq_of_mem_set hw).elim (imms_iff.mp im4 w) fun q => q ▸ im2) (l4.set r2' j2)
  rw [List.set_set] at E5
  exact K.nx _ σ _ hn E5
end
theorem all_of {β : Type} {f : β → PyData} {Q : β → Prop} : ∀ ds : List PyData, (∀ y ∈ ds, ∃ l, y = f l ∧ Q l) → ∃ g : List β, ds = g.map f ∧ ∀ l ∈ g, Q l
  | [], _ => ⟨[], rfl, fun _ h => by cases h⟩
  | d :: ds, h => by
    obtain ⟨l, e, hl⟩ := h d List.mem_cons_self
    obtain ⟨g, e2, h2⟩ := all_of ds fun y hy => h y (List.mem_cons_of_mem _ hy)
    exact ⟨l :: g, by rw [e, e2]; rfl, fun x hx => by
      rcases List.mem_cons.mp hx with rfl | k
      · exact hl
      · exact h2 x k⟩


abbrev s_lw_pick : Stmt := top 92
theorem sc_lw_pick : FnScope ["_law_box_here", "_law_some"] ["_law_box_here", "_law_some"] (defScope s_lw_pick) := ⟨rfl, rfl, rfl, by decide +kernel, rfl, by decide +kernel, by decide +kernel⟩
abbrev N_lw_pick : List Str := ["_law_box_here", "_law_some"]
abbrev T_lw_pick (P : Program) (w : World) (K : PySem.W.Frag) (mg : Str → Option Value) (base : Heap) : Prop := CalF P w K mg base "_law_pick" 2 ["_law_box_here", "_law_some"] (spB (α := Nat × Nat) (fun a => [.list [eN a.1, eN a.2]]) (fun _ => True) (fun a d => ∃ r, d = eN r ∧ (r = a.1 ∨ r = a.2)))
section
variable {P : Program} {w : World} {K : PySem.W.Frag} {mg : Str → Option Value} {base : Heap}
theorem c_lw_pick (B : Blt mg) (D : DefAt K mg "_law_pick" s_lw_pick) (C_lw_take : T_lw_take P w K mg base) : T_lw_pick P w K mg base := by
  obtain ⟨f, fd, h1, F⟩ := D.ex
  refine ⟨f, fd, h1, F.kp, F.bindsN fun _ _ _ _ _ _ us hl => match us, hl with | [_, _], _ => rfl, ?_⟩
  refine fn_B F sc_lw_pick (fun _ => rfl) (fun a => [.arg (.list [eN a.1, eN a.2])]) (fun _ _ => as_ok ⟨aA, trivial⟩) fun ⟨x, y⟩ hp p cdv A outer s H E hr => ?_
  try dsimp only at hp
  have c := ctx_of (P := P) (w := w) (K := K) (base := base) (f := f) (cdv := cdv) (outer := outer) (H := H) (E := E) B sc_lw_pick.nd hr
  refine runb_one (runb_retX (evx_ixArg 1 (ds := [eN x, eN y]) rfl (evx_take (P0 := P) (n := 2) C_lw_take hr 0 rfl (EvD.is (ev_cb (ca_lenL (xs := [eN x, eN y])) c.len boot_len (eds_one (ev_var 1 rfl rfl))) rfl) (by decide) (by decide)) (R := fun d => ∃ r, d = eN r ∧ (r = x ∨ r = y)) fun r d h => ?_) fun d h => h)
  match r, h with
  | 0, h => cases h; exact ⟨⟨x, rfl, .inl rfl⟩, rfl⟩
  | 1, h => cases h; exact ⟨⟨y, rfl, .inr rfl⟩, rfl⟩
  | r + 2, h => cases h
end

section
variable {X : Cx} {S : List Sl} {p : Addr} {a b e t : Expr} {R : PyData → Prop} {pos : Pos}
theorem evx_pick {P0 : Program} {j x y : Nat} {xb : Str} {pb pp pl : Pos} (F : T_lw_pick X.prog X.w X.K X.mg X.base) (hr : Room j X.A) (i : Nat) (hb : S[i]? = some (Sl.fix (.ref p))) (ha : EvD X a S (eN x)) (hb2 : EvD X b S (eN y)) (hR : ∀ r, (r = x ∨ r = y) → R (eN r))
    (hk : 2 ≤ j := by decide) (hN : X.N[i]? = some xb := by rfl) (hv : Vis X.env.scope xb := by first | exact Or.inl rfl | exact Or.inr (Or.inl rfl) | exact Or.inr (Or.inr rfl)) (hdb0 : (xb == ("__debug__" : Str)) = false := by decide) (hcd : (xb == ("__classdict__" : Str)) = false := by decide)
    (hg : Gl X "_law_pick" := by rfl) (hst : starEach [.Name xb pb, .List [a, b] pl] X.env = (false, eval (.Name xb pb) X.env) :: starEach [.List [a, b] pl] X.env := by rfl) (hst2 : starEach [.List [a, b] pl] X.env = (false, eval (.List [a, b] pl) X.env) :: starEach [] X.env := by rfl) (hst3 : starEach [a, b] X.env = (false, eval a X.env) :: starEach [b] X.env := by rfl) (hst4 : starEach [b] X.env = (false, eval b X.env) :: starEach [] X.env := by rfl)
    (hpl : (backTo pos (starEach [.List [a, b] pl] X.env)).any (·.1) = false := by rfl) : EvX X (.Call (.Name "_law_pick" pp) [.Name xb pb, .List [a, b] pl] [] pos) S p R := fun A B H σ E Q q => by
  obtain ⟨f, fd, h1, h2, h3, h4⟩ := F.ex
  obtain ⟨o, ho, hv0⟩ := E.env.at hb
  cases (show o = some (.ref p) from hv0)
  refine ⟨_, pe_call h4 (hr.mono hk) hg h1 h2 h3 .nil pass0 (pa_cons (pe_var hN hv hdb0 hcd) (pa_cons we pa_nil hst2) hst) (by decide) hst hpl, _, ho, (ev_lst (eds_cons ha (eds_one hb2 hst4) hst3) : EvN X (.List [a, b] pl) S [eN x, eN y]) A B H σ E.env _ fun q0 xs H1 n e1 g1 g2 => ?_⟩
  have E1 := E.mono e1
  have nq : q0 ≠ p := fun z => by
    obtain ⟨g, s, _, k⟩ := E.bx
    rw [z, k] at n
    cases n
  refine ⟨(x, y), p, [.ref q0], rfl, E1.bx, .cons (.lst (by rw [er_ne H1 nq]; exact g1) (g2.tx (er_tx E1.bx) rfl)) .nil, trivial, fun d v H2 o2 im2 b2 m2 r2 => ?_⟩
  obtain ⟨r, rfl, hr⟩ := o2
  exact q _ v H2 (hR r hr) im2 (E1.mx m2 b2) r2 (e1.mx.trans m2)
end


abbrev s_lw_history : Stmt := top 94
theorem sc_lw_history : FnScope ["_law_box_here", "_law_machine_here", "_law_hands", "_law_many", "_law_turn"] ["_law_box_here", "_law_machine_here", "_law_hands", "_law_many"] (defScope s_lw_history) := ⟨rfl, rfl, rfl, by decide +kernel, rfl, by decide +kernel, by decide +kernel⟩
abbrev N_lw_history : List Str := ["_law_box_here", "_law_machine_here", "_law_hands", "_law_many", "_law_turn"]
abbrev T_lw_history (P : Program) (w : World) (K : PySem.W.Frag) (mg : Str → Option Value) (base : Heap) : Prop := CalF P w K mg base "_law_history" 2 ["_law_box_here", "_law_machine_here", "_law_hands", "_law_many"] (spB (α := Mach × Nat × Nat) (fun a => [eM a.1, eN a.2.1, eN a.2.2]) (fun a => VM a.1 ∧ 1 ≤ a.2.1 ∧ a.2.1 ≤ 4 ∧ a.2.2 ≤ 10) (fun a d => ∃ g, d = eH g ∧ VH a.2.1 a.1.ds.length g ∧ g.length = a.2.2))
section
variable {P : Program} {w : World} {K : PySem.W.Frag} {mg : Str → Option Value} {base : Heap}
theorem c_lw_history (B : Blt mg) (D : DefAt K mg "_law_history" s_lw_history) (C_lw_take : T_lw_take P w K mg base) : T_lw_history P w K mg base := by
  obtain ⟨f, fd, h1, F⟩ := D.ex
  refine ⟨f, fd, h1, F.kp, F.bindsN fun _ _ _ _ _ _ us hl => match us, hl with | [_, _, _, _], _ => rfl, ?_⟩
  refine fn_B F sc_lw_history (fun _ => rfl) (fun a => [.arg (eM a.1), .arg (eN a.2.1), .arg (eN a.2.2)]) (fun _ _ => as_ok ⟨aA, aA, aA, trivial⟩) fun ⟨m, h, k⟩ hp p cdv A outer s H E hr => ?_
  try dsimp only at hp
  have c := ctx_of (P := P) (w := w) (K := K) (base := base) (f := f) (cdv := cdv) (outer := outer) (H := H) (E := E) B sc_lw_history.nd hr
  obtain ⟨hm, h1, h4, hk⟩ : VM m ∧ 1 ≤ h ∧ h ≤ 4 ∧ k ≤ 10 := hp
  have d1 := hm.d1
  have d6 := hm.d6
  refine runb_one (runb_retX (evx_tuplc (n := k) (Rel := fun d => ∃ l : Nat × Nat, d = eL l ∧ (l.1 < h ∧ l.2 < m.ds.length)) (R := fun d => ∃ g, d = eH g ∧ VH h m.ds.length g ∧ g.length = k) c [("_law_turn", 4)] rfl (ev_var 3 rfl rfl) (by omega) [4] (fun j => [_, .arg (eM m), .arg (eN h), _, .dat (eN j)]) (by decide) (fun j hj s H C cl fp => g_name 4 c.nd) (fun j hj s H C cl fp => evx_tup (exs_cons (evx_take (P0 := P) C_lw_take hr 0 rfl (ev_var 2 rfl rfl) h1 (by omega)) (exs_cons (evx_take (P0 := P) (n := m.ds.length) C_lw_take hr 0 rfl (EvD.is (ev_cb ca_lenT c.len boot_len (eds_one (ev_ixT (i := 1) (ev_var 1 rfl rfl) ev_int rfl))) (by rw [List.length_map]; rfl)) d1 (by omega)) exs_nil)) fun ds ⟨y, ys, e1, ⟨z, e2, hz⟩, y2, ys2, e3, ⟨d, e4, hd⟩, e5⟩ => ?_) fun ds hl hR => ?_) fun d h => h)
  · rw [e1, e2, e3, e4, e5]
    exact ⟨by show 2 ≤ 1000; decide, (z, d), rfl, hz, hd⟩
  · obtain ⟨g, e, hg⟩ := all_of ds hR
    subst e
    rw [List.length_map] at hl
    exact ⟨g, rfl, ⟨by omega, hg⟩, hl⟩
end

abbrev s_lw_machine : Stmt := top 93
theorem sc_lw_machine : FnScope ["_law_box_here", "_law_boards", "_law_deeds", "_law_many", "_law_maps", "_law_deed", "_law_way", "_law_board_here"] ["_law_box_here", "_law_boards", "_law_deeds"] (defScope s_lw_machine) := ⟨rfl, rfl, rfl, by decide +kernel, rfl, by decide +kernel, by decide +kernel⟩
abbrev N_lw_machine : List Str := ["_law_box_here", "_law_boards", "_law_deeds", "_law_many", "_law_maps", "_law_deed", "_law_way", "_law_board_here"]
abbrev T_lw_machine (P : Program) (w : World) (K : PySem.W.Frag) (mg : Str → Option Value) (base : Heap) : Prop := CalF P w K mg base "_law_machine" 3 ["_law_box_here", "_law_boards", "_law_deeds"] (spB (α := Unit) (fun _ => [.int 4, .int 2]) (fun _ => True) (fun _ d => ∃ m, d = eM m ∧ VM m))
section
variable {P : Program} {w : World} {K : PySem.W.Frag} {mg : Str → Option Value} {base : Heap}
theorem c_lw_machine (B : Blt mg) (D : DefAt K mg "_law_machine" s_lw_machine) (C_lw_take : T_lw_take P w K mg base) (C_lw_pick : T_lw_pick P w K mg base) : T_lw_machine P w K mg base := by
  obtain ⟨f, fd, h1, F⟩ := D.ex
  refine ⟨f, fd, h1, F.kp, F.bindsN fun _ _ _ _ _ _ us hl => match us, hl with | [_, _, _], _ => rfl, ?_⟩
  refine fn_B F sc_lw_machine (fun _ => rfl) (fun _ => [.arg (.int 4), .arg (.int 2)]) (fun _ _ => as_ok ⟨aA, aA, trivial⟩) fun ⟨⟩ hp p cdv A outer s H E hr => ?_
  try dsimp only at hp
  have c := ctx_of (P := P) (w := w) (K := K) (base := base) (f := f) (cdv := cdv) (outer := outer) (H := H) (E := E) B sc_lw_machine.nd hr
  refine runb_cons (runb_setX 3 (R := fun d => ∃ k, d = eN k ∧ 1 ≤ k ∧ k ≤ 4) c (evx_bin (EvX.of (R := fun d => d = .int 1) ev_int rfl rfl) (evx_take (P0 := P) (n := 4) C_lw_take hr 0 rfl (ev_var 1 rfl rfl) (by decide) (by decide)) fun da db e1 ⟨r, e2, hr⟩ => by subst e1; subst e2; exact ⟨_, od_add, rfl, 1 + r, congrArg PyData.int (by omega), by omega, by omega⟩) fun d ⟨k, e, hk1, hk4⟩ => ?_)
  subst e
  refine runb_cons (runb_pure (run_set 4 (.lst []) c ⟨rfl, ev_lst eds_nil⟩ ?_))
  refine runb_cons (runb_forR 5 (Rn := fun n => 1 ≤ n ∧ n ≤ 2) c (evx_bin (EvX.of (R := fun d => d = .int 1) ev_int rfl rfl) (evx_take (P0 := P) (n := 2) C_lw_take hr 0 rfl (ev_var 2 rfl rfl) (by decide) (by decide)) fun da db e1 ⟨r, e2, hr⟩ => by subst e1; subst e2; exact ⟨_, od_add, rfl, 1 + r, congrArg PyData.int (by omega), by omega, by omega⟩) (fun n hn => by omega)
    (fun n j S' => ∃ (rows : List (List Nat)) (s6 : Sl), rows.length = j ∧ (∀ r ∈ rows, r.length = k ∧ ∀ x ∈ r, x < k) ∧ S' = [.fix (.ref p), .arg (.int 4), .arg (.int 2), .dat (eN k), .lst (rows.map eNs), .any, s6, .any]) (fun n hn => ⟨[], .any, rfl, fun _ h => by simp at h, rfl⟩) ?_ ?_)
  · rintro n j S' hn hj ⟨rows, s6, hl, hrow, rfl⟩
    have fin : ∀ (r : List Nat) (s6 : Sl), r.length = k → (∀ x ∈ r, x < k) → ∃ vs, (fun S' => ∃ (rows : List (List Nat)) (s6 : Sl), rows.length = j + 1 ∧ (∀ r ∈ rows, r.length = k ∧ ∀ x ∈ r, x < k) ∧ S' = [Sl.fix (.ref p), .arg (.int 4), .arg (.int 2), .dat (eN k), .lst (rows.map eNs), .any, s6, .any]) (wipeS [.fix (.ref p), .arg (.int 4), .arg (.int 2), .dat (eN k), .lst (rows.map eNs ++ [eNs r]), .dat (eN j), s6, .any] vs) := fun r s6 h1 h2 => ⟨[5], rows ++ [r], s6, by rw [List.length_append, hl]; rfl, fun w hw => by
      rcases List.mem_append.mp hw with q | q
      · exact hrow w q
      · cases List.mem_singleton.mp q
        exact ⟨h1, h2⟩, by rw [List.map_append]; rfl⟩
    have ofl : ∀ ds : List PyData, ds.length = k → (∀ y ∈ ds, ∃ x : Nat, y = eN x ∧ x < k) → ∃ r : List Nat, PyData.tuple ds = eNs r ∧ r.length = k ∧ ∀ x ∈ r, x < k := fun ds h1 h2 => by
      obtain ⟨r, e, h3⟩ := all_of ds h2
      subst e
      rw [List.length_map] at h1
      exact ⟨r, rfl, h1, h3⟩
    refine runb_cons (runb_setX 6 (R := fun d => ∃ r, d = eN r ∧ r < 4) c (evx_take (P0 := P) (n := 4) C_lw_take hr 0 rfl ev_int (by decide) (by decide)) fun d ⟨wy, e, hw⟩ => ?_)
    subst e
    refine runb_one (runb_ifD (k := decide (wy = 0)) (EvT.is (et_cmp (od_eqi c) (ev_var 6 rfl rfl) ev_int) (eqN wy 0)) (fun _ => ?_) fun _ => runb_one (runb_ifD (k := decide (wy = 1)) (EvT.is (et_cmp (od_eqi c) (ev_var 6 rfl rfl) ev_int) (eqN wy 1)) (fun _ => ?_) fun _ => ?_))
    · refine runb_one (runb_appendX 4 rfl (R := fun d => ∃ r : List Nat, d = eNs r ∧ r.length = k ∧ ∀ x ∈ r, x < k) (evx_tuplc (n := k) (Rel := fun d => ∃ x : Nat, d = eN x ∧ x < k) c [("_law_board_here", 7)] rfl (ev_var 3 rfl rfl) (by omega) [7] (fun j => [.fix (.ref p), _, _, _, _, _, _, .dat (eN j)]) (by decide) (fun j hj s H C cl fp => g_name 7 c.nd) (fun b hb s H C cl fp => evx_pick (P0 := P) C_lw_pick hr 0 rfl (ev_var 7 rfl rfl) (y := 0) ev_int fun r h => ⟨r, rfl, by rcases h with h | h <;> (rw [h]; first | exact hb | exact hk1)⟩) ofl) (by rw [List.length_map]; omega) fun d ⟨r, e, h1, h2⟩ => by subst e; exact fin r _ h1 h2)
    · refine runb_one (runb_pure (run_append 4 rfl (ev_ct ca_tupL c.tuple boot_tuple (eds_one (EvN.toD (ev_lca c [("_law_board_here", 7)] rfl (List.range k) (fun x => .one (.dat (eN x))) [7] (fun x => [_, _, _, .dat (eN k), _, _, _, .dat (eN x)]) (fun x => eN ((x + 1) % k)) (it_range c (ev_var 3 rfl rfl) (by omega) (by omega)) (rng_N k) rfl (by rw [List.length_range]; omega) (by decide) (fun x hx s H C cl fp => g_name 7 c.nd) fun x hx => ⟨rfl, fun s H C cl fp => EvD.is (ev_bin (od_mod (j := (k : Int)) (by omega)) (ev_bin od_add (ev_var 7 rfl rfl) ev_int) (ev_var 3 rfl rfl)) rfl⟩)))) (imms_map fun _ _ => rfl) (by rw [List.length_map]; omega) ?_))
      have := fin ((List.range k).map fun x => (x + 1) % k) (.dat (eN wy)) (by rw [List.length_map, List.length_range]) fun x hx => by
        obtain ⟨y, _, rfl⟩ := List.mem_map.mp hx
        exact Nat.mod_lt _ (by omega)
      rw [show eNs ((List.range k).map fun x => (x + 1) % k) = .tuple ((List.range k).map fun x => eN ((x + 1) % k)) by unfold eNs; rw [List.map_map]; rfl] at this
      exact this
    · refine runb_one (runb_appendX 4 rfl (R := fun d => ∃ r : List Nat, d = eNs r ∧ r.length = k ∧ ∀ x ∈ r, x < k) (evx_tuplc (n := k) (Rel := fun d => ∃ x : Nat, d = eN x ∧ x < k) c [("_law_board_here", 7)] rfl (ev_var 3 rfl rfl) (by omega) [7] (fun j => [.fix (.ref p), _, _, .dat (eN k), _, _, _, .dat (eN j)]) (by decide) (fun j hj s H C cl fp => g_name 7 c.nd) (fun b hb s H C cl fp => evx_take (P0 := P) (n := k) C_lw_take hr 0 rfl (ev_var 3 rfl rfl) hk1 (by omega)) ofl) (by rw [List.length_map]; omega) fun d ⟨r, e, h1, h2⟩ => by subst e; exact fin r _ h1 h2)
  · rintro n S' ⟨hn1, hn2⟩ ⟨rows, s6, hl, hrow, rfl⟩
    refine runb_one (runb_retX (evx_tup (exs_cons (evx_take (P0 := P) (n := k) C_lw_take hr 0 rfl (ev_var 3 rfl rfl) hk1 (by omega)) (exs_cons (EvX.of (R := fun d => d = .tuple (rows.map eNs)) (ev_ct ca_tupL c.tuple boot_tuple (eds_one (ev_var 4 rfl rfl))) (imms_map fun l _ => imm_Ns l) rfl) exs_nil)) (R := fun d => ∃ m, d = eM m ∧ VM m) fun ds ⟨y, ys, e1, ⟨z, e2, hz⟩, y2, ys2, e3, e4, e5⟩ => ?_) fun d h => h)
    rw [e1, e2, e3, e4, e5]
    have hb : Mach.b ⟨z, rows⟩ = k := by
      unfold Mach.b
      cases rows with
      | nil =>
        simp at hl
        omega
      | cons r rs => exact (hrow r List.mem_cons_self).1
    exact ⟨by show 2 ≤ 1000; decide, ⟨z, rows⟩, rfl, by show 1 ≤ rows.length; omega, by show rows.length ≤ 6; omega, by rw [hb]; exact hk1, by rw [hb]; omega, fun r hr => by rw [hb]; exact hrow r hr, by rw [hb]; exact hz⟩
end
end Ow
end

section
set_option linter.all false
set_option maxRecDepth 100000
set_option maxHeartbeats 4000000
set_option autoImplicit false
/-! Defs: the law, another history, the box. -/
namespace Ow
open PySem L2 OwL Om
open PyProof.Rows (envOfC)

theorem ixN_lt {n j : Nat} {z : Int} (h : ixN n z = some j) : j < n := by
  unfold ixN at h
  by_cases h0 : 0 ≤ z
  · rw [if_pos h0] at h
    by_cases h1 : z < n
    · rw [if_pos h1] at h
      have : z.toNat = j := Option.some.inj h
      omega
    · rw [if_neg h1] at h
      cases h
  · rw [if_neg h0] at h
    by_cases h1 : -(n : Int) ≤ z
    · rw [if_pos h1] at h
      have : (z + n).toNat = j := Option.some.inj h
      omega
    · rw [if_neg h1] at h
      cases h
theorem ixN_prev {n a : Nat} (h : a < n) : ∃ j, ixN n (((a : Nat) : Int) - 1) = some j := by
  unfold ixN
  by_cases h0 : 0 ≤ ((a : Nat) : Int) - 1
  · rw [if_pos h0, if_pos (by omega)]
    exact ⟨_, rfl⟩
  · rw [if_neg h0, if_pos (by omega)]
    exact ⟨_, rfl⟩
theorem atI_ix {g : Hist} {z : Int} {j : Nat} (h : ixN g.length z = some j) : atI (g.map eL) z = some (eL (g.getD j (0, 0))) := by
  have hj := ixN_lt h
  unfold atI
  rw [List.length_map, h]
  show (g.map eL)[j]? = _
  rw [List.getElem?_map, List.getElem?_eq_getElem hj, getD_of (List.getElem?_eq_getElem hj)]
  rfl
theorem getD_mem {g : Hist} {j : Nat} (h : j < g.length) : g.getD j (0, 0) ∈ g := by
  rw [getD_of (List.getElem?_eq_getElem h)]
  exact List.getElem_mem h
theorem VH.set {h n : Nat} {g : Hist} (v : VH h n g) (j : Nat) {l : Nat × Nat} (hl : l.1 < h ∧ l.2 < n) : VH h n (g.set j l) := ⟨by rw [List.length_set]; exact v.1, fun x hx => by
  rcases List.mem_or_eq_of_mem_set hx with k | k
  · exact v.2 x k
  · rw [k]; exact hl⟩
/-- the box of a script -/
def cellOf (l : List Int) (k : Nat) : Int := if k < l.length then (if l.getD k 0 < 0 then -(l.getD k 0) else l.getD k 0) else if 0 < l.length then 8311 * k + 2099 + (if l.getD (k % l.length) 0 < 0 then -(l.getD (k % l.length) 0) else l.getD (k % l.length) 0) % 2147483563 * 51421 else 8311 * k + 2099
def boxG (l : List Int) (k : Nat) : Int := if 10 ^ 18 ≤ cellOf l k then cellOf l k else 0
def boxS (l : List Int) (k : Nat) : Int := (cellOf l k % 2147483563 * 40014 + 2099 * k) % 2147483563 + 1
theorem box_ok (l : List Int) (k : Nat) : BxOk (boxG l k) (boxS l k) := by
  refine ⟨?_, ?_, ?_⟩
  · unfold boxG
    split <;> omega
  · unfold boxS
    have := Int.emod_nonneg (cellOf l k % 2147483563 * 40014 + 2099 * k) (by decide : (2147483563 : Int) ≠ 0)
    omega
  · unfold boxS
    have := Int.emod_lt_of_pos (cellOf l k % 2147483563 * 40014 + 2099 * k) (by decide : (0 : Int) < 2147483563)
    omega


abbrev s_lw_other : Stmt := top 108
theorem sc_lw_other : FnScope ["_law_box_here", "_law_machine_here", "_law_hands", "_law_history_here", "_law_found", "_law_turn", "_law_at"] ["_law_box_here", "_law_machine_here", "_law_hands", "_law_history_here"] (defScope s_lw_other) := ⟨rfl, rfl, rfl, by decide +kernel, rfl, by decide +kernel, by decide +kernel⟩
abbrev N_lw_other : List Str := ["_law_box_here", "_law_machine_here", "_law_hands", "_law_history_here", "_law_found", "_law_turn", "_law_at"]
abbrev T_lw_other (P : Program) (w : World) (K : PySem.W.Frag) (mg : Str → Option Value) (base : Heap) : Prop := CalF P w K mg base "_law_other" 2 ["_law_box_here", "_law_machine_here", "_law_hands", "_law_history_here"] (spB (α := Mach × Nat × Hist) (fun a => [eM a.1, eN a.2.1, eH a.2.2]) (fun a => VM a.1 ∧ VH a.2.1 a.1.ds.length a.2.2 ∧ 1 ≤ a.2.2.length) (fun a d => ∃ g, d = eH g ∧ VH a.2.1 a.1.ds.length g ∧ g.length = a.2.2.length))
section
variable {P : Program} {w : World} {K : PySem.W.Frag} {mg : Str → Option Value} {base : Heap}
theorem c_lw_other (B : Blt mg) (D : DefAt K mg "_law_other" s_lw_other) (C_lw_take : T_lw_take P w K mg base) : T_lw_other P w K mg base := by
  obtain ⟨f, fd, h1, F⟩ := D.ex
  refine ⟨f, fd, h1, F.kp, F.bindsN fun _ _ _ _ _ _ us hl => match us, hl with | [_, _, _, _], _ => rfl, ?_⟩
  refine fn_B F sc_lw_other (fun _ => rfl) (fun a => [.arg (eM a.1), .arg (eN a.2.1), .arg (eH a.2.2)]) (fun _ _ => as_ok ⟨aA, aA, aA, trivial⟩) fun ⟨m, h, g⟩ hp p cdv A outer s H E hr => ?_
  try dsimp only at hp
  have c := ctx_of (P := P) (w := w) (K := K) (base := base) (f := f) (cdv := cdv) (outer := outer) (H := H) (E := E) B sc_lw_other.nd hr
  obtain ⟨hm, hg, hlen⟩ : VM m ∧ VH h m.ds.length g ∧ 1 ≤ g.length := hp
  have d1 := hm.d1
  have d6 := hm.d6
  have hg1 := hg.1
  refine runb_cons (runb_pure (run_set 4 (.lst (g.map eL)) c ⟨imms_L g, ev_ctN ca_lstT c.list boot_list (eds_one (ev_var 3 rfl rfl))⟩ ?_))
  refine runb_cons (runb_forR 5 (Rn := fun n => n < 4) c (evx_take (P0 := P) (n := 4) C_lw_take hr 0 rfl ev_int (by decide) (by decide)) (fun n hn => by omega)
    (fun n j S' => ∃ (g' : Hist) (s6 : Sl), VH h m.ds.length g' ∧ g'.length = g.length ∧ S' = [.fix (.ref p), .arg (eM m), .arg (eN h), .arg (eH g), .lst (g'.map eL), .any, s6]) (fun n hn => ⟨g, .any, hg, rfl, rfl⟩) ?_ ?_)
  · rintro n j S' hn hj ⟨g', s6, hv, hl, rfl⟩
    refine runb_cons (runb_setX 6 (R := fun d => ∃ r, d = eN r ∧ r < g'.length) c (evx_take (P0 := P) (n := g'.length) C_lw_take hr 0 rfl (EvD.is (ev_cb ca_lenL c.len boot_len (eds_one (ev_var 4 rfl rfl))) (by rw [List.length_map]; rfl)) (by omega) (by omega)) fun d ⟨at0, e, hat⟩ => ?_)
    subst e
    obtain ⟨jp, hjp⟩ := ixN_prev hat
    have hjp1 := ixN_lt hjp
    have hja : ixN g'.length ((at0 : Nat) : Int) = some at0 := ixN_nat hat
    have e1 := atI_ix hjp
    have e2 := atI_ix hja
    have v1 := hv.2 _ (getD_mem hjp1)
    have v2 := hv.2 _ (getD_mem hat)
    refine runb_one (runb_ifX (etx_and (evx_cmp (Ra := fun d => ∃ r, d = eN r ∧ r < 3) (Rb := fun d => d = .int 0) (evx_take (P0 := P) (n := 3) C_lw_take hr 0 rfl ev_int (by decide) (by decide)) (EvX.of ev_int rfl rfl) fun da db ⟨r, q1, _⟩ q2 => by subst q1; subst q2; exact ⟨_, od_gt⟩) (EtX.of (et_cmp (od_nei c) (ev_ixT (i := 0) (ds := [eN _, eN _]) (ev_ixL (ev_var 4 rfl rfl) (ev_bin od_sub (ev_var 6 rfl rfl) ev_int) e1) ev_int rfl) (ev_ixT (i := 0) (ds := [eN _, eN _]) (ev_ixL (ev_var 4 rfl rfl) (ev_var 6 rfl rfl) e2) ev_int rfl)))) ?_ (runb_one (runb_ifX (evx_cmp (Ra := fun d => ∃ r, d = eN r ∧ r < 2) (Rb := fun d => d = .int 0) (evx_take (P0 := P) (n := 2) C_lw_take hr 0 rfl ev_int (by decide) (by decide)) (EvX.of ev_int rfl rfl) fun da db ⟨r, q1, _⟩ q2 => by subst q1; subst q2; exact ⟨_, od_eqi c⟩) ?_ (runb_nil ⟨[5], g', _, hv, hl, rfl⟩))))
    · refine runb_one (runb_pure (run_two 4 c rfl (ev_ixL (ev_var 4 rfl rfl) (ev_var 6 rfl rfl) e2) (ev_ixL (ev_var 4 rfl rfl) (ev_bin od_sub (ev_var 6 rfl rfl) ev_int) e1) (imm_L _) (imm_L _) (ev_bin od_sub (ev_var 6 rfl rfl) ev_int) (ev_var 6 rfl rfl) (by rw [List.length_map]; exact hjp) (by rw [List.length_map]; exact hja) ⟨[5], (g'.set jp (g'.getD at0 (0, 0))).set at0 (g'.getD jp (0, 0)), .dat (eN at0), (hv.set jp v2).set at0 v1, by rw [List.length_set, List.length_set]; exact hl, ?_⟩))
      rw [List.map_set, List.map_set]
      rfl
    · refine runb_one (runb_setItemX 4 (R := fun d => ∃ l : Nat × Nat, d = eL l ∧ l.1 < h ∧ l.2 < m.ds.length) rfl (evx_tup (exs_cons (EvX.of (R := fun d => d = eN (g'.getD at0 (0, 0)).1) (ev_ixT (i := 0) (ds := [eN _, eN _]) (ev_ixL (ev_var 4 rfl rfl) (ev_var 6 rfl rfl) e2) ev_int rfl) rfl rfl) (exs_cons (evx_take (P0 := P) (n := m.ds.length) C_lw_take hr 0 rfl (EvD.is (ev_cb ca_lenT c.len boot_len (eds_one (ev_ixT (i := 1) (ev_var 1 rfl rfl) ev_int rfl))) (by rw [List.length_map]; rfl)) d1 (by omega)) exs_nil)) fun ds ⟨y, ys, q1, q2, y2, ys2, q3, ⟨d, q4, hd⟩, q5⟩ => by
        rw [q1, q2, q3, q4, q5]
        exact ⟨by show 2 ≤ 1000; decide, ((g'.getD at0 (0, 0)).1, d), rfl, v2.1, hd⟩) (ev_var 6 rfl rfl) (by rw [List.length_map]; exact hja) fun d ⟨l, q, hl1, hl2⟩ => ⟨[5], g'.set at0 l, .dat (eN at0), hv.set at0 ⟨hl1, hl2⟩, by rw [List.length_set]; exact hl, by rw [q, List.map_set]; rfl⟩)
  · rintro n S' hn ⟨g', s6, hv, hl, rfl⟩
    exact runb_one (runb_pure (run_ret (ev_ct ca_tupL c.tuple boot_tuple (eds_one (ev_var 4 rfl rfl))) ⟨⟨g', rfl, hv, hl⟩, imm_H g'⟩))
end

/-- the script, as the law's caller hands it in: read alone -/
def PreL (K : PySem.W.Frag) (l : List Int) : Hp → V → Prop := fun H v => ∃ a, v = .ref a ∧ SqL K H a (l.map V.int)
theorem PreL.ex {K : PySem.W.Frag} {l : List Int} {H H' : Hp} {v : V} (e : Ex H H') (h : PreL K l H v) : PreL K l H' v := by
  obtain ⟨a, rfl, h⟩ := h
  refine ⟨a, rfl, ?_⟩
  rcases h with (h | ⟨o, h⟩) | h
  · exact .inl (.inl (e _ _ h))
  · exact .inl (.inr ⟨o, e _ _ h⟩)
  · exact .inr h
def EvP (X : Cx) (e : Expr) (S : List Sl) (l : List Int) : Prop := ∀ A B H σ, EnvOk A B H σ S → ∀ Q : VK, (∀ v H', Ex H H' → PreL X.K l H' v → Q v H') → WE X e σ H Q
section
variable {X : Cx} {S : List Sl} {l : List Int} {e b : Expr} {pos : Pos}
theorem evp_var (i : Nat) {x : Str} (h : S[i]? = some (Sl.pre (PreL X.K l))) (hN : X.N[i]? = some x := by rfl) (hv : Vis X.env.scope x := by first | exact Or.inl rfl | exact Or.inr (Or.inl rfl) | exact Or.inr (Or.inr rfl)) (hdb : (x == ("__debug__" : Str)) = false := by decide)
    (hcd : (x == ("__classdict__" : Str)) = false := by decide) : EvP X (.Name x pos) S l := fun A B H σ E Q q => by
  obtain ⟨o, h1, u, rfl, h2⟩ := E.at h
  exact ⟨_, pe_var hN hv hdb hcd, u, h1, q u H (Ex.refl H) (h2.ex (E.ax.trans E.ex))⟩
theorem ev_lenP {p : Pos} (h : EvP X e S l) (hm : X.mg "len" = none) (hg : Gl X "len" := by rfl) (he : starEach [e] X.env = (false, eval e X.env) :: starEach [] X.env := by rfl) (hpl : (backTo pos (starEach [] X.env)).any (·.1) = false := by rfl) :
    EvD X (.Call (.Name "len" p) [e] [] pos) S (.int l.length) := fun A B H σ E Q q => by
  refine ⟨_, pe_callB call_len_seq hg hm boot_len (pa_cons we pa_nil he) (by decide) (by decide) he hpl, h A B H σ E _ fun v H1 e1 r1 => ?_⟩
  obtain ⟨a, rfl, r1⟩ := r1
  refine ⟨a, _, rfl, .inl r1, ?_⟩
  rw [List.length_map]
  exact q _ H1 e1 (.int _)
theorem ev_ixP {i n : Int} (ha : EvP X e S l) (hb : EvD X b S (.int i)) (h : atI (l.map V.int) i = some (.int n)) (hs : PlainIx b := by intro _ _; rfl) : EvD X (.Subscript e b pos) S (.int n) := fun A B H σ E Q q =>
  ⟨_, pe_ix ix_list we we hs, ha A B H σ E _ fun x H1 e1 r1 => hb A B H1 σ (E.mono e1) _ fun y H2 e2 r2 => by
    obtain ⟨a, rfl, r3⟩ := r1.ex e2
    exact ⟨a, _, i, _, rfl, r2.toInt, r3, h, q _ H2 (e1.trans e2) (.int n)⟩⟩
end
abbrev s_lw_box : Stmt := top 90
theorem sc_lw_box : FnScope ["_law_script", "_law_k", "_law_cell", "_law_great"] ["_law_script", "_law_k"] (defScope s_lw_box) := ⟨rfl, rfl, rfl, by decide +kernel, rfl, by decide +kernel, by decide +kernel⟩
abbrev N_lw_box : List Str := ["_law_script", "_law_k", "_law_cell", "_law_great"]
def S_lw_box (K : PySem.W.Frag) : Sp := fun vs H Q _ => ∃ (l : List Int) (k : Nat) (v : V), vs = [v, .int ((k : Nat) : Int)] ∧ PreL K l H v ∧ k < 3 ∧ ∀ p xs H', H p = none → Ex H H' → H' p = some (.lst xs) → Dvs H' xs [.int (boxG l k), .int (boxS l k)] → Q (.ref p) H'
abbrev T_lw_box (P : Program) (w : World) (K : PySem.W.Frag) (mg : Str → Option Value) (base : Heap) : Prop := CalF P w K mg base "_law_box" 1 ["_law_script", "_law_k"] (S_lw_box K)
section
variable {P : Program} {w : World} {K : PySem.W.Frag} {mg : Str → Option Value} {base : Heap}
theorem c_lw_box (B : Blt mg) (G : Gls mg) (D : DefAt K mg "_law_box" s_lw_box) : T_lw_box P w K mg base := by
  obtain ⟨f, fd, h1, F⟩ := D.ex
  refine ⟨f, fd, h1, F.kp, F.bindsN fun _ _ _ _ _ _ us hl => match us, hl with | [_, _], _ => rfl, ?_⟩
  refine F.ok sc_lw_box (fun vs H Q E ⟨l, k, v, e, _⟩ => by rw [e]; rfl) fun cdv A outer s H vs Q E hr ⟨l, k, v, e, hv, hk, q⟩ => ?_
  subst e
  have c := ctx_of (P := P) (w := w) (K := K) (base := base) (f := f) (cdv := cdv) (outer := outer) (H := H) (E := E) B sc_lw_box.nd hr
  have main : RunS (bX P w K mg base N_lw_box "_law_box" (defScope s_lw_box) f cdv A outer s H E) (defBody s_lw_box) [.pre (PreL K l), .arg (eN k), .any, .any] { nx := fun _ => False, rl := fun d => d = [.int (boxG l k), .int (boxS l k)] } := by
    have ab : ∀ x : Int, 0 ≤ (if x < 0 then -x else x) := fun x => by split <;> omega
    have ati : ∀ j, j < l.length → atI (l.map V.int) ((j : Nat) : Int) = some (.int (l.getD j 0)) := fun j hj => by
      unfold atI
      rw [List.length_map, ixN_nat hj]
      show (l.map V.int)[j]? = _
      rw [List.getElem?_map, List.getElem?_eq_getElem hj, getD_of (List.getElem?_eq_getElem hj)]
      rfl
    refine run_cons (run_set 2 (.dat (.int (8311 * (k : Int) + 2099))) c ⟨rfl, ev_bin od_add (ev_bin (od_mul (.inl ⟨by decide, by decide⟩)) ev_int (ev_var 1 rfl rfl)) ev_int⟩ ?_)
    have rest : RunS (bX P w K mg base N_lw_box "_law_box" (defScope s_lw_box) f cdv A outer s H E) ((defBody s_lw_box).drop 2) [.pre (PreL K l), .arg (eN k), .dat (.int (cellOf l k)), .any] { nx := fun _ => False, rl := fun d => d = [.int (boxG l k), .int (boxS l k)] } := by
      refine run_cons (run_set 3 (.dat (.int (boxG l k))) c ⟨rfl, ev_ife (k := decide (10 ^ 18 ≤ cellOf l k)) (EvT.is (et_cmp od_ge (ev_var 2 rfl rfl) (ev_bin (od_pow ⟨by decide, by decide, by decide⟩) ev_int ev_int)) rfl) (fun q => EvD.is (ev_var 2 rfl rfl) (by unfold boxG; rw [if_pos (of_decide_eq_true q)])) fun q => EvD.is ev_int (by unfold boxG; rw [if_neg (of_decide_eq_false q)])⟩ ?_)
      have m0 := Int.emod_nonneg (cellOf l k) (by decide : (2147483563 : Int) ≠ 0)
      have m1 := Int.emod_lt_of_pos (cellOf l k) (by decide : (0 : Int) < 2147483563)
      exact run_one (run_retN (ev_lst (eds_cons (ev_var 3 rfl rfl) (eds_one (ev_bin od_add (ev_bin (od_mod (by decide)) (ev_ct ca_int c.int boot_int (eds_one (ev_bin od_add (ev_bin (od_mul (.inl ⟨by omega, by omega⟩)) (ev_bin (od_mod (by decide)) (ev_ct ca_int c.int boot_int (eds_one (ev_var 2 rfl rfl))) ev_int) ev_int) (ev_bin (od_mul (.inl ⟨by decide, by decide⟩)) ev_int (ev_var 1 rfl rfl))))) ev_int) ev_int)))) rfl)
    refine run_cons (run_if (k := decide (k < l.length)) (EvT.is (et_cmp od_lt (ev_var 1 rfl rfl) (ev_lenP (evp_var 0 rfl) c.len)) (by exact ltN _ _)) (fun q => ?_) fun q => ?_)
    · have q := of_decide_eq_true q
      refine run_one (run_set 2 (.dat (.int (cellOf l k))) c ⟨rfl, EvD.is (ev_cb ca_abs c.abs boot_abs (eds_one (ev_ct ca_int c.int boot_int (eds_one (ev_ixP (evp_var 0 rfl) (ev_var 1 rfl rfl) (ati k q)))))) (by unfold cellOf; rw [if_pos q])⟩ rest)
    · have q := of_decide_eq_false q
      refine run_one (run_if (k := decide (0 < l.length)) (EvT.is (et_cmp od_gt (ev_lenP (evp_var 0 rfl) c.len) ev_int) (by exact ltN 0 _)) (fun q2 => ?_) fun q2 => ?_)
      · have q2 := of_decide_eq_true q2
        have hlt := Nat.mod_lt k q2
        have a0 := ab (l.getD (k % l.length) 0)
        have m0 := Int.emod_nonneg (if l.getD (k % l.length) 0 < 0 then -(l.getD (k % l.length) 0) else l.getD (k % l.length) 0) (by decide : (2147483563 : Int) ≠ 0)
        have m1 := Int.emod_lt_of_pos (if l.getD (k % l.length) 0 < 0 then -(l.getD (k % l.length) 0) else l.getD (k % l.length) 0) (by decide : (0 : Int) < 2147483563)
        refine run_one (run_set 2 (.dat (.int (cellOf l k))) c ⟨rfl, EvD.is (ev_bin od_add (ev_var 2 rfl rfl) (ev_bin (od_mul (.inl ⟨by omega, by omega⟩)) (ev_bin (od_mod (by decide)) (ev_ct ca_int c.int boot_int (eds_one (ev_cb ca_abs c.abs boot_abs (eds_one (ev_ct ca_int c.int boot_int (eds_one (ev_ixP (evp_var 0 rfl) (EvD.is (ev_bin (od_mod (j := ((l.length : Nat) : Int)) (by omega)) (ev_ct ca_int c.int boot_int (eds_one (ev_var 1 rfl rfl))) (EvD.is (ev_lenP (evp_var 0 rfl) c.len) rfl)) (by rfl)) (ati _ hlt)))))))) ev_int) ev_int)) (by unfold cellOf; rw [if_neg q, if_pos q2])⟩ rest)
      · have q2 := of_decide_eq_false q2
        refine run_nil (run_is ?_ rest)
        have : cellOf l k = 8311 * (k : Int) + 2099 := by unfold cellOf; rw [if_neg q, if_neg q2]
        rw [this]
        rfl
  have E0 : EnvOk H H H (L2.start N_lw_box [v, .int ((k : Nat) : Int)]) [.pre (PreL K l), .arg (eN k), .any, .any] := SlAll.env (.cons ⟨v, rfl, hv⟩ (fun _ z => nomatch z) (.cons ⟨_, rfl, .int _⟩ (fun _ z => nomatch z) (.cons trivial (fun _ z => nomatch z) (.cons trivial (fun _ z => nomatch z) .nil))))
  obtain ⟨t, p, g⟩ := main H H H _ { nx := fun _ H' => Q .non H', rt := Q } E0 ⟨fun _ _ _ z _ => z.elim, fun _ _ _ z _ _ => z.elim, fun ds p xs H' z e1 n h3 h4 => q p xs H' n e1 h3 (z ▸ h4)⟩
  exact ⟨t, p.nox, g⟩
end
theorem ev_box {X : Cx} {S : List Sl} {l : List Int} {k j : Nat} {e b : Expr} {p pos : Pos} (F : T_lw_box X.prog X.w X.K X.mg X.base) (hr : Room j X.A) (he : EvP X e S l) (hb : EvD X b S (eN k)) (h : k < 3) (hj : 1 ≤ j := by decide) (hg : Gl X "_law_box" := by rfl)
    (h1 : starEach [e, b] X.env = (false, eval e X.env) :: starEach [b] X.env := by rfl) (h2 : starEach [b] X.env = (false, eval b X.env) :: starEach [] X.env := by rfl) (hpl : (backTo pos (starEach [b] X.env)).any (·.1) = false := by rfl) : EvN X (.Call (.Name "_law_box" p) [e, b] [] pos) S [.int (boxG l k), .int (boxS l k)] := fun A B H σ E Q q => by
  obtain ⟨f, fd, f1, f2, f3, f4⟩ := F.ex
  refine ⟨_, pe_call f4 (hr.mono hj) hg f1 f2 f3 .nil pass0 (pa_cons we (pa_cons we pa_nil h2) h1) (by decide) h1 hpl, he A B H σ E _ fun v H1 e1 r1 => hb A B H1 σ (E.mono e1) _ fun u H2 e2 r2 => ?_⟩
  exact ⟨l, k, v, by rw [r2.toInt]; rfl, r1.ex e2, h, fun p xs H' n e3 g1 g2 => q p xs H' ((e1.trans e2).back n) ((e1.trans e2).trans e3) g1 g2⟩

end Ow
end

section
set_option linter.all false
set_option maxRecDepth 100000
set_option maxHeartbeats 4000000
set_option autoImplicit false
/-! Classes. -/
namespace Ow
open PySem L2 OwL Om
open PyProof.Rows (envOfC)

abbrev s_ki : Stmt := nth (clsBd (top 86)) 0
abbrev s_kt : Stmt := nth (clsBd (top 86)) 1
abbrev s_wi : Stmt := nth (clsBd (top 88)) 0
abbrev s_wt : Stmt := nth (clsBd (top 88)) 1
abbrev s_wl : Stmt := nth (clsBd (top 88)) 2
abbrev s_wb : Stmt := nth (clsBd (top 88)) 3
abbrev FnM (K : PySem.W.Frag) (x q : Str) (st : Stmt) (f : Addr) (fd : FuncData) : Prop := FunD K x q (defArgs st) (defBody st) (defScope st) [] [] f fd
structure Kpr (K : PySem.W.Frag) (mg : Str → Option Value) (C fi ft : Addr) (di dt : FuncData) : Prop where
  mg : mg "Keeper" = some (.ref C)
  cls : Cls K C
  n1 : NoAttr K C "machine"
  n2 : NoAttr K C "history"
  n3 : NoAttr K C "hands"
  mkr : Mk K C fi
  Fi : FnM K "__init__" "Keeper.__init__" s_ki fi di
  mt : Meth K C "take" ft
  Ft : FnM K "take" "Keeper.take" s_kt ft dt
structure Wld (K : PySem.W.Frag) (mg : Str → Option Value) (C fi ft fl fb : Addr) (di dt dl db : FuncData) : Prop where
  mg : mg "World" = some (.ref C)
  cls : Cls K C
  n1 : NoAttr K C "machine"
  n2 : NoAttr K C "history"
  n3 : NoAttr K C "hands"
  n4 : NoAttr K C "keeper"
  mkr : Mk K C fi
  Fi : FnM K "__init__" "World.__init__" s_wi fi di
  mt : Meth K C "take" ft
  Ft : FnM K "take" "World.take" s_wt ft dt
  ml : Meth K C "tells" fl
  Fl : FnM K "tells" "World.tells" s_wl fl dl
  mb : Meth K C "beside" fb
  Fb : FnM K "beside" "World.beside" s_wb fb db
theorem EvD.useD {X : Cx} {e : Expr} {S : List Sl} {A B H : Hp} {σ : L2.St} (d : PyData) (E : EnvOk A B H σ S) (h : EvD X e S d) {Q : VK} (q : ∀ v H', Ex H H' → Dv H' v d → Q v H') : WE X e σ H Q := h A B H σ E Q q
theorem EvR.use {X : Cx} {e : Expr} {S : List Sl} {R : PyData → Prop} {A B H : Hp} {σ : L2.St} (E : EnvOk A B H σ S) (h : EvR X e S R) {Q : VK} (q : ∀ d v H', R d → Ex H H' → Dv H' v d → Q v H') : WE X e σ H Q := h A B H σ E Q q
def fsK (m : Mach) (g : Hist) (h : Nat) : List (Str × PyData) := [("machine", eM m), ("history", eH g), ("hands", eN h)]
def KpIs (C : Addr) (H : Hp) (a : Addr) (m : Mach) (h : Nat) (g : Hist) : Prop := ∃ dx vm vg, H a = some (.ins C dx [("machine", vm), ("history", vg), ("hands", .int (h : Nat))]) ∧ Dv H vm (eM m) ∧ Dv H vg (eH g)
def WdIs (C : Addr) (H : Hp) (a kp : Addr) (m : Mach) (h : Nat) (g : Hist) : Prop := ∃ dx vm vg, H a = some (.ins C dx [("machine", vm), ("history", vg), ("hands", .int (h : Nat)), ("keeper", .ref kp)]) ∧ Dv H vm (eM m) ∧ Dv H vg (eH g)
def WdOk (CW CK : Addr) (H : Hp) (a kp : Addr) (m : Mach) (h : Nat) (g : Hist) : Prop := a ≠ kp ∧ WdIs CW H a kp m h g ∧ ∃ g', KpIs CK H kp m h g' ∧ VH h m.ds.length g' ∧ g'.length = g.length
theorem lk (x y : Str) (h : (x == y) = false) {α : Type} (v : α) (r : List (Str × α)) : List.lookup x ((y, v) :: r) = List.lookup x r := by
  rw [List.lookup_cons, h]
theorem lk0 (x : Str) {α : Type} (v : α) (r : List (Str × α)) : List.lookup x ((x, v) :: r) = some v := by
  rw [List.lookup_cons, beq_self_eq_true]
theorem q_mh : (("history" : Str) == ("machine" : Str)) = false := by decide +kernel
theorem q_mn : (("hands" : Str) == ("machine" : Str)) = false := by decide +kernel
theorem q_hn : (("hands" : Str) == ("history" : Str)) = false := by decide +kernel
theorem q_km : (("keeper" : Str) == ("machine" : Str)) = false := by decide +kernel
theorem q_kh : (("keeper" : Str) == ("history" : Str)) = false := by decide +kernel
theorem q_kn : (("keeper" : Str) == ("hands" : Str)) = false := by decide +kernel
theorem nes {x y : Str} (h : (x == y) = false) : y ≠ x := fun e => by rw [e, beq_self_eq_true] at h; cases h
abbrev fs1 (v : V) : List (Str × V) := [("machine", v)]
abbrev fs2 (a v : V) : List (Str × V) := [("machine", a), ("history", v)]
abbrev fs3 (a b v : V) : List (Str × V) := [("machine", a), ("history", b), ("hands", v)]
abbrev fs4 (a b c v : V) : List (Str × V) := [("machine", a), ("history", b), ("hands", c), ("keeper", v)]
theorem put1 (v : V) : putF "machine" v [] = fs1 v := rfl
theorem put2 (a v : V) : putF "history" v (fs1 a) = fs2 a v := by
  unfold putF
  rw [if_neg (nes q_mh)]
  rfl
theorem put3 (a b v : V) : putF "hands" v (fs2 a b) = fs3 a b v := by
  unfold putF
  rw [if_neg (nes q_mn)]
  unfold putF
  rw [if_neg (nes q_hn)]
  rfl
theorem put4 (a b c v : V) : putF "keeper" v (fs3 a b c) = fs4 a b c v := by
  unfold putF
  rw [if_neg (nes q_km)]
  unfold putF
  rw [if_neg (nes q_kh)]
  unfold putF
  rw [if_neg (nes q_kn)]
  rfl
theorem putH (a b v : V) (r : List (Str × V)) : putF "history" v ((("machine" : Str), a) :: ("history", b) :: r) = (("machine" : Str), a) :: ("history", v) :: r := by
  unfold putF
  rw [if_neg (nes q_mh)]
  unfold putF
  rw [if_pos rfl]
theorem Tx.ins {H : Hp} {a C dx : Addr} {fs : List (Str × V)} {o : HO} (h : H a = some (.ins C dx fs)) : Tx H (upd H a o) := fun b xs e => by
  rw [upd_ne fun z => by rw [z, h] at e; cases e]
  exact e
/-- what an instance shows -/
theorem obj1 {H : Hp} {a C dx : Addr} {vm : V} {m : Mach} {r : List (Str × V)} (h : H a = some (.ins C dx (("machine", vm) :: r))) (d : Dv H vm (eM m)) : SlV H H H (some (.ref a)) (.obj C [("machine", eM m)]) := ⟨a, dx, _, rfl, h, fun x d' hx => by
  rw [List.lookup_cons] at hx
  cases q : (x == ("machine" : Str)) with
  | false =>
    rw [q] at hx
    cases hx
  | true =>
    rw [q] at hx
    cases hx
    exact ⟨vm, by rw [List.lookup_cons, q], d⟩⟩
theorem obj3 {H : Hp} {a C dx : Addr} {vm vg : V} {m : Mach} {g : Hist} {h : Nat} {r : List (Str × V)} (e : H a = some (.ins C dx (("machine", vm) :: ("history", vg) :: ("hands", .int (h : Nat)) :: r))) (d : Dv H vm (eM m)) (d2 : Dv H vg (eH g)) : SlV H H H (some (.ref a)) (.obj C (fsK m g h)) := ⟨a, dx, _, rfl, e, fun x d' hx => by
  unfold fsK at hx
  rw [List.lookup_cons] at hx
  cases q : (x == ("machine" : Str)) with
  | true =>
    rw [q] at hx
    cases hx
    exact ⟨vm, by rw [List.lookup_cons, q], d⟩
  | false =>
    rw [q] at hx
    replace hx : List.lookup x [(("history" : Str), eH g), ("hands", eN h)] = some d' := hx
    rw [List.lookup_cons] at hx
    cases q2 : (x == ("history" : Str)) with
    | true =>
      rw [q2] at hx
      cases hx
      exact ⟨vg, by rw [List.lookup_cons, q]; show List.lookup x (("history", vg) :: _) = _; rw [List.lookup_cons, q2], d2⟩
    | false =>
      rw [q2] at hx
      replace hx : List.lookup x [(("hands" : Str), eN h)] = some d' := hx
      rw [List.lookup_cons] at hx
      cases q3 : (x == ("hands" : Str)) with
      | false =>
        rw [q3] at hx
        cases hx
      | true =>
        rw [q3] at hx
        cases hx
        exact ⟨.int h, by rw [List.lookup_cons, q]; show List.lookup x (("history", vg) :: _) = _; rw [List.lookup_cons, q2]; show List.lookup x (("hands", V.int h) :: _) = _; rw [List.lookup_cons, q3], .int _⟩⟩
theorem fk1 (m : Mach) (g : Hist) (h : Nat) : List.lookup ("machine" : Str) (fsK m g h) = some (eM m) := lk0 _ _ _
theorem fk2 (m : Mach) (g : Hist) (h : Nat) : List.lookup ("history" : Str) (fsK m g h) = some (eH g) := (lk _ _ q_mh _ _).trans (lk0 _ _ _)
theorem fk3 (m : Mach) (g : Hist) (h : Nat) : List.lookup ("hands" : Str) (fsK m g h) = some (eN h) := (lk _ _ q_mn _ _).trans ((lk _ _ q_hn _ _).trans (lk0 _ _ _))
theorem slA {H : Hp} {v : V} {d : PyData} (h : Dv H v d) : SlV H H H (some v) (.arg d) := ⟨v, rfl, h⟩
theorem slN (C : Addr) (f : List (Str × PyData)) : ∀ ds, Sl.obj C f ≠ Sl.lst ds := fun _ z => nomatch z
theorem slM (d : PyData) : ∀ ds, Sl.arg d ≠ Sl.lst ds := fun _ z => nomatch z
theorem slY : ∀ ds, Sl.any ≠ Sl.lst ds := fun _ z => nomatch z
def Mx1 (a : Addr) (H H' : Hp) : Prop := ∀ b o, b ≠ a → H b = some o → H' b = some o
theorem Mx1.upd {a : Addr} {H H' : Hp} {o : HO} (m : Mx1 a H H') : Mx1 a H (upd H' a o) := fun b p n h => by rw [upd_ne n]; exact m b p n h
theorem Ex.mx1 {a : Addr} {H H' : Hp} (e : Ex H H') : Mx1 a H H' := fun b o _ h => e b o h
theorem Mx1.trans {a : Addr} {H H1 H2 : Hp} (x : Mx1 a H H1) (y : Mx1 a H1 H2) : Mx1 a H H2 := fun b o n h => y b o n (x b o n h)
def spKi (C : Addr) : Sp := fun vs H Q _ => ∃ (a : Addr) (vm : V) (m : Mach) (h : Nat) (dx : Addr), vs = [.ref a, vm, .int (h : Nat)] ∧ H a = some (.ins C dx []) ∧ Dv H vm (eM m) ∧ VM m ∧ VHd h ∧ ∀ H', Mx1 a H H' → KpIs C H' a m h [] → Q .non H'
abbrev N_ki : List Str := ["self", "machine", "hands"]
theorem sc_ki : FnScope N_ki ["self", "machine", "hands"] (defScope s_ki) := ⟨rfl, rfl, rfl, by decide +kernel, rfl, by decide +kernel, by decide +kernel⟩
section
variable {P : Program} {w : World} {K : PySem.W.Frag} {mg : Str → Option Value} {base : Heap} {C fi ft : Addr} {di dt : FuncData}
theorem ok_ki (B : Blt mg) (R : Kpr K mg C fi ft di dt) (C_check_machine : T_check_machine P w K mg base) (C_check_history : T_check_history P w K mg base) : FnOk P w K mg base CX0 9 fi di ["self", "machine", "hands"] (spKi C) := by
  refine R.Fi.ok sc_ki (fun vs H Q E ⟨a, vm, m, h, dx, e, _⟩ => by rw [e]; rfl) fun cdv A outer s H vs Q E hr ⟨a, vm, m, h, dx, e, ha, hvm, hm, hh, q⟩ => ?_
  subst e
  have c := ctx_of (P := P) (w := w) (K := K) (base := base) (f := fi) (cdv := cdv) (outer := outer) (H := H) (E := E) B sc_ki.nd hr
  suffices hw : WSs (bX P w K mg base N_ki "Keeper.__init__" (defScope s_ki) fi cdv A outer s H E) (defBody s_ki) { nx := fun _ H' => Q .non H', rt := Q } (L2.start N_ki [.ref a, vm, .int (h : Nat)]) H by
    obtain ⟨t, pp, g⟩ := hw
    exact ⟨t, pp.nox, g⟩
  have pvs : ∀ {p : Pos}, PE (bX P w K mg base N_ki "Keeper.__init__" (defScope s_ki) fi cdv A outer s H E) (.Name "self" p) (tVar 0) := pe_var rfl (Or.inl rfl) (by decide) (by decide)
  refine ⟨_, pss_cons (ps_fld pvs we rfl) (pss_cons (ps_fld pvs we rfl) (pss_one (ps_fld pvs we rfl))), ?_⟩
  have E0 : EnvOk H H H (L2.start N_ki [.ref a, vm, .int (h : Nat)]) [.any, .arg (eM m), .arg (eN h)] := SlAll.env (.cons trivial slY (.cons (slA hvm) (slM _) (.cons (slA (.int _)) (slM _) .nil)))
  show WE _ _ _ _ _
  refine EvD.useD (eM m) E0 ?_ fun v1 H1 e1 r1 => ?_
  · exact ev_call C_check_machine hr (false, m) hm (eds_one (ev_var 1 rfl rfl))
  have ha1 := e1 _ _ ha
  refine ⟨_, rfl, a, C, dx, [], rfl, ha1, R.cls, R.n1, (by decide : (0 : Nat) < 1000), ?_⟩
  rw [put1]
  generalize hH2 : upd H1 a (HO.ins C dx (fs1 v1)) = H2
  have ha2 : H2 a = some (.ins C dx (fs1 v1)) := by rw [← hH2]; exact upd_same
  have t12 : Tx H1 H2 := by rw [← hH2]; exact Tx.ins ha1
  have m2 : Mx1 a H H2 := by rw [← hH2]; exact (Ex.mx1 e1).upd
  have r1' := r1.tx t12 (imm_M m)
  have E2 : EnvOk H2 H2 H2 (L2.start N_ki [.ref a, vm, .int (h : Nat)]) [.obj C [("machine", eM m)], .any, .arg (eN h)] := SlAll.env (.cons (obj1 ha2 r1') (slN _ _) (.cons trivial slY (.cons (slA (.int _)) (slM _) .nil)))
  show WE _ _ _ _ _
  refine EvD.useD (eH []) E2 ?_ fun v2 H3 e3 r3 => ?_
  · exact ev_call C_check_history hr (m, h, false, []) ⟨hm, hh, Nat.zero_le 10, fun _ z => by cases z⟩ (eds_cons (ev_fld 0 rfl R.cls R.n1 (lk0 _ _ _)) (eds_cons (ev_var 2 rfl rfl) (eds_one (ev_tup eds_nil))))
  have ha3 := e3 _ _ ha2
  refine ⟨_, rfl, a, C, dx, (fs1 v1), rfl, ha3, R.cls, R.n2, (by decide : (1 : Nat) < 1000), ?_⟩
  rw [put2]
  generalize hH4 : upd H3 a (HO.ins C dx (fs2 v1 v2)) = H4
  have ha4 : H4 a = some (.ins C dx (fs2 v1 v2)) := by rw [← hH4]; exact upd_same
  have t34 : Tx H3 H4 := by rw [← hH4]; exact Tx.ins ha3
  have m4 : Mx1 a H H4 := by rw [← hH4]; exact (m2.trans (Ex.mx1 e3)).upd
  have E4 : EnvOk H4 H4 H4 (L2.start N_ki [.ref a, vm, .int (h : Nat)]) [.any, .any, .arg (eN h)] := SlAll.env (.cons trivial slY (.cons trivial slY (.cons (slA (.int _)) (slM _) .nil)))
  show WE _ _ _ _ _
  refine EvD.useD (eN h) E4 ?_ fun v3 H5 e5 r5 => ?_
  · exact ev_var 2 rfl rfl
  have ha5 := e5 _ _ ha4
  refine ⟨_, rfl, a, C, dx, (fs2 v1 v2), rfl, ha5, R.cls, R.n3, (by decide : (2 : Nat) < 1000), ?_⟩
  rw [put3, r5.toInt]
  have t56 : Tx H5 (upd H5 a (HO.ins C dx (fs3 v1 v2 (.int (h : Nat))))) := Tx.ins ha5
  refine q _ (m4.trans (Ex.mx1 e5)).upd ⟨dx, v1, v2, upd_same, ?_, ?_⟩
  · exact r1'.tx ((e3.tx.trans t34).trans (e5.tx.trans t56)) (imm_M m)
  · exact r3.tx (t34.trans (e5.tx.trans t56)) (imm_H [])
end


theorem EvR.useR {X : Cx} {e : Expr} {S : List Sl} {A B H : Hp} {σ : L2.St} (R : PyData → Prop) (E : EnvOk A B H σ S) (h : EvR X e S R) {Q : VK} (q : ∀ d v H', R d → Ex H H' → Dv H' v d → Q v H') : WE X e σ H Q := h A B H σ E Q q
def spKt (C : Addr) : Sp := fun vs H Q _ => ∃ (a : Addr) (vp : V) (m : Mach) (h : Nat) (g : Hist) (z d : Nat), vs = [.ref a, vp] ∧ KpIs C H a m h g ∧ Dv H vp (eP (z, d)) ∧ (VM m ∧ VHd h ∧ VH h m.ds.length g ∧ z < h ∧ d < m.ds.length ∧ g.length ≤ 9) ∧ ∀ v H' g', Mx1 a H H' → KpIs C H' a m h g' → VH h m.ds.length g' → g'.length = g.length + 1 → Q v H'
abbrev N_kt : List Str := ["self", "press"]
theorem sc_kt : FnScope N_kt ["self", "press"] (defScope s_kt) := ⟨rfl, rfl, rfl, by decide +kernel, rfl, by decide +kernel, by decide +kernel⟩
def spWl (CW CK : Addr) : Sp := fun vs H Q _ => ∃ (a kp : Addr) (m : Mach) (h : Nat) (g : Hist), vs = [.ref a] ∧ WdOk CW CK H a kp m h g ∧ (VM m ∧ VHd h ∧ VH h m.ds.length g) ∧ ∀ v H', Ex H H' → Q v H'
abbrev N_wl : List Str := ["self"]
theorem sc_wl : FnScope N_wl ["self"] (defScope s_wl) := ⟨rfl, rfl, rfl, by decide +kernel, rfl, by decide +kernel, by decide +kernel⟩
def spWb (CW CK : Addr) : Sp := fun vs H Q _ => ∃ (a kp : Addr) (vh : V) (m : Mach) (h : Nat) (g g2 : Hist), vs = [.ref a, vh] ∧ WdOk CW CK H a kp m h g ∧ Dv H vh (eH g2) ∧ (VM m ∧ VHd h ∧ VH h m.ds.length g ∧ VH h m.ds.length g2) ∧ ∀ d v H', CmpOk m h g g2 d → Ex H H' → Dv H' v d → Q v H'
abbrev N_wb : List Str := ["self", "history"]
theorem sc_wb : FnScope N_wb ["self", "history"] (defScope s_wb) := ⟨rfl, rfl, rfl, by decide +kernel, rfl, by decide +kernel, by decide +kernel⟩
section
variable {P : Program} {w : World} {K : PySem.W.Frag} {mg : Str → Option Value} {base : Heap} {C fi ft : Addr} {di dt : FuncData} {CW wi wt wl wb : Addr} {ei et el eb : FuncData}
theorem ok_kt (B : Blt mg) (R : Kpr K mg C fi ft di dt) (C_renewed : T_renewed P w K mg base) : FnOk P w K mg base CX0 13 ft dt ["self", "press"] (spKt C) := by
  refine R.Ft.ok sc_kt (fun vs H Q E ⟨a, vp, m, h, g, z, d, e, _⟩ => by rw [e]; rfl) fun cdv A outer s H vs Q E hr ⟨a, vp, m, h, g, z, d, e, hk, hvp, hp, q⟩ => ?_
  subst e
  have c := ctx_of (P := P) (w := w) (K := K) (base := base) (f := ft) (cdv := cdv) (outer := outer) (H := H) (E := E) B sc_kt.nd hr
  suffices hw : WSs (bX P w K mg base N_kt "Keeper.take" (defScope s_kt) ft cdv A outer s H E) (defBody s_kt) { nx := fun _ H' => Q .non H', rt := Q } (L2.start N_kt [.ref a, vp]) H by
    obtain ⟨t, pp, g⟩ := hw
    exact ⟨t, pp.nox, g⟩
  obtain ⟨dx, vm, vg, ha, hvm, hvg⟩ := hk
  refine ⟨_, pss_cons (ps_fld (pe_var (i := 0) rfl (Or.inl rfl) (by decide) (by decide)) we rfl) (pss_one (ps_ret we)), ?_⟩
  have E0 : EnvOk H H H (L2.start N_kt [.ref a, vp]) [.obj C (fsK m g h), .arg (eP (z, d))] := SlAll.env (.cons (obj3 ha hvm hvg) (slN _ _) (.cons (slA hvp) (slM _) .nil))
  show WE _ _ _ _ _
  refine EvR.useR (fun y => ∃ k, y = eH k ∧ VH h m.ds.length k ∧ k.length = g.length + 1) E0 ?_ fun y v1 H1 hy e1 r1 => ?_
  · exact ev_callR C_renewed hr (m, h, g, z, d) hp (eds_cons (ev_fld 0 rfl R.cls R.n1 (fk1 m g h)) (eds_cons (ev_fld 0 rfl R.cls R.n3 (fk3 m g h)) (eds_cons (ev_fld 0 rfl R.cls R.n2 (fk2 m g h)) (eds_one (ev_var 1 rfl rfl)))))
  obtain ⟨k, rfl, hk1, hk2⟩ := hy
  have ha1 := e1 _ _ ha
  refine ⟨_, rfl, a, C, dx, _, rfl, ha1, R.cls, R.n2, (by decide : (3 : Nat) < 1000), ?_⟩
  rw [putH]
  generalize hH2 : upd H1 a (HO.ins C dx (fs3 vm v1 (.int (h : Nat)))) = H2
  have ha2 : H2 a = some (.ins C dx (fs3 vm v1 (.int (h : Nat)))) := by rw [← hH2]; exact upd_same
  have t12 : Tx H1 H2 := by rw [← hH2]; exact Tx.ins ha1
  have m2 : Mx1 a H H2 := by rw [← hH2]; exact (Ex.mx1 e1).upd
  have hvm2 := hvm.tx (e1.tx.trans t12) (imm_M m)
  have r2 := r1.tx t12 (imm_H k)
  have E2 : EnvOk H2 H2 H2 (L2.start N_kt [.ref a, vp]) [.obj C (fsK m k h), .any] := SlAll.env (.cons (obj3 ha2 hvm2 r2) (slN _ _) (.cons trivial slY .nil))
  show WE _ _ _ _ _
  refine EvD.useD (eH k) E2 ?_ fun v2 H3 e3 r3 => ?_
  · exact ev_fld 0 rfl R.cls R.n2 (fk2 m k h)
  exact q v2 H3 k (m2.trans (Ex.mx1 e3)) ⟨dx, vm, v1, e3 _ _ ha2, hvm2.ex e3, r2.ex e3⟩ hk1 hk2
theorem ok_wl (B : Blt mg) (R : Kpr K mg C fi ft di dt) (W : Wld K mg CW wi wt wl wb ei et el eb) (C_board_of : T_board_of P w K mg base) (C_counts_of : T_counts_of P w K mg base) : FnOk P w K mg base CX0 11 wl el ["self"] (spWl CW C) := by
  refine W.Fl.ok sc_wl (fun vs H Q E ⟨a, kp, m, h, g, e, _⟩ => by rw [e]; rfl) fun cdv A outer s H vs Q E hr ⟨a, kp, m, h, g, e, hk, hp, q⟩ => ?_
  subst e
  have c := ctx_of (P := P) (w := w) (K := K) (base := base) (f := wl) (cdv := cdv) (outer := outer) (H := H) (E := E) B sc_wl.nd hr
  suffices hw : WSs (bX P w K mg base N_wl "World.tells" (defScope s_wl) wl cdv A outer s H E) (defBody s_wl) { nx := fun _ H' => Q .non H', rt := Q } (L2.start N_wl [.ref a]) H by
    obtain ⟨t, pp, g⟩ := hw
    exact ⟨t, pp.nox, g⟩
  obtain ⟨hne, ⟨dx, vm, vg, ha, hvm, hvg⟩, g', ⟨dk, vm', vg', hka, _, _⟩, _, _⟩ := hk
  refine ⟨_, pss_one (ps_ret (pe_tup (pa_cons we (pa_cons we (pa_cons (pe_fld (pe_fld (pe_var (i := 0) rfl (Or.inl rfl) (by decide) (by decide)) rfl) rfl) pa_nil))))), ?_⟩
  have E0 : EnvOk H H H (L2.start N_wl [.ref a]) [.obj CW (fsK m g h)] := SlAll.env (.cons (obj3 ha hvm hvg) (slN _ _) .nil)
  show WE _ _ _ _ _
  refine EvD.useD (eN (run m g)) E0 ?_ fun v1 H1 e1 r1 => ?_
  · exact ev_call C_board_of hr (m, g) ⟨hp.1, hp.2.2.1, fun l hl => ⟨Nat.lt_of_lt_of_le (hp.2.2.2 l hl).1 hp.2.1.2, (hp.2.2.2 l hl).2⟩⟩ (eds_cons (ev_fld 0 rfl W.cls W.n1 (fk1 m g h)) (eds_one (ev_fld 0 rfl W.cls W.n2 (fk2 m g h))))
  show WE _ _ _ _ _
  refine EvD.useD (eNs (counts h g)) (E0.mono e1) ?_ fun v2 H2 e2 r2 => ?_
  · exact ev_call C_counts_of hr (h, g) ⟨hp.2.1, hp.2.2.mono hp.1.d6⟩ (eds_cons (ev_fld 0 rfl W.cls W.n3 (fk3 m g h)) (eds_one (ev_fld 0 rfl W.cls W.n2 (fk2 m g h))))
  refine ⟨_, rfl, a, CW, dx, _, .ref kp, rfl, (e1.trans e2) _ _ ha, W.cls, W.n4, (lk _ _ q_km _ _).trans ((lk _ _ q_kh _ _).trans ((lk _ _ q_kn _ _).trans (lk0 _ _ _))), ?_⟩
  refine ⟨kp, C, dk, _, vg', rfl, (e1.trans e2) _ _ hka, R.cls, R.n2, (lk _ _ q_mh _ _).trans (lk0 _ _ _), ?_⟩
  exact ⟨by show 3 ≤ sizeLine; decide, fun t ht => q _ _ ((e1.trans e2).trans (Ex.new ht))⟩
theorem ok_wb (B : Blt mg) (W : Wld K mg CW wi wt wl wb ei et el eb) (C_compare : T_compare P w K mg base) : FnOk P w K mg base CX0 15 wb eb ["self", "history"] (spWb CW C) := by
  refine W.Fb.ok sc_wb (fun vs H Q E ⟨a, kp, vh, m, h, g, g2, e, _⟩ => by rw [e]; rfl) fun cdv A outer s H vs Q E hr ⟨a, kp, vh, m, h, g, g2, e, hk, hvh, hp, q⟩ => ?_
  subst e
  have c := ctx_of (P := P) (w := w) (K := K) (base := base) (f := wb) (cdv := cdv) (outer := outer) (H := H) (E := E) B sc_wb.nd hr
  suffices hw : WSs (bX P w K mg base N_wb "World.beside" (defScope s_wb) wb cdv A outer s H E) (defBody s_wb) { nx := fun _ H' => Q .non H', rt := Q } (L2.start N_wb [.ref a, vh]) H by
    obtain ⟨t, pp, g⟩ := hw
    exact ⟨t, pp.nox, g⟩
  obtain ⟨hne, ⟨dx, vm, vg, ha, hvm, hvg⟩, _⟩ := hk
  refine ⟨_, pss_one (ps_ret we), ?_⟩
  have E0 : EnvOk H H H (L2.start N_wb [.ref a, vh]) [.obj CW (fsK m g h), .arg (eH g2)] := SlAll.env (.cons (obj3 ha hvm hvg) (slN _ _) (.cons (slA hvh) (slM _) .nil))
  show WE _ _ _ _ _
  refine EvR.useR (CmpOk m h g g2) E0 ?_ fun y v1 H1 hy e1 r1 => q y v1 H1 hy e1 r1
  exact ev_callR C_compare hr ((false, m), h, (false, g), (false, g2)) ⟨hp.1, hp.2.1, hp.2.2.1, hp.2.2.2⟩ (eds_cons (ev_fld 0 rfl W.cls W.n1 (fk1 m g h)) (eds_cons (ev_fld 0 rfl W.cls W.n3 (fk3 m g h)) (eds_cons (ev_fld 0 rfl W.cls W.n2 (fk2 m g h)) (eds_one (ev_var 1 rfl rfl)))))
end

end Ow
end

section
set_option linter.all false
set_option maxRecDepth 100000
set_option maxHeartbeats 4000000
set_option autoImplicit false
/-! Classes, World. -/
namespace Ow
open PySem L2 OwL Om
open PyProof.Rows (envOfC)

def spWi (CW CK : Addr) : Sp := fun vs H Q _ => ∃ (a : Addr) (vm : V) (m : Mach) (h : Nat) (dx : Addr), vs = [.ref a, vm, .int (h : Nat)] ∧ H a = some (.ins CW dx []) ∧ Dv H vm (eM m) ∧ VM m ∧ VHd h ∧ ∀ H' kp, Mx1 a H H' → H kp = none → WdOk CW CK H' a kp m h [] → Q .non H'
abbrev N_wi : List Str := ["self", "machine", "hands"]
theorem sc_wi : FnScope N_wi ["self", "machine", "hands"] (defScope s_wi) := ⟨rfl, rfl, rfl, by decide +kernel, rfl, by decide +kernel, by decide +kernel⟩
def Mx2 (a b : Addr) (H H' : Hp) : Prop := ∀ c o, c ≠ a → c ≠ b → H c = some o → H' c = some o
def spWt (CW CK : Addr) : Sp := fun vs H Q _ => ∃ (a kp : Addr) (vp : V) (m : Mach) (h : Nat) (g : Hist) (z d : Nat), vs = [.ref a, vp] ∧ WdOk CW CK H a kp m h g ∧ Dv H vp (eP (z, d)) ∧ (VM m ∧ VHd h ∧ VH h m.ds.length g ∧ z < h ∧ d < m.ds.length ∧ g.length ≤ 9) ∧ ∀ v H', Mx2 a kp H H' → WdOk CW CK H' a kp m h (g ++ [(z, d)]) → Q v H'
abbrev N_wt : List Str := ["self", "press", "later"]
theorem sc_wt : FnScope N_wt ["self", "press"] (defScope s_wt) := ⟨rfl, rfl, rfl, by decide +kernel, rfl, by decide +kernel, by decide +kernel⟩
section
variable {P : Program} {w : World} {K : PySem.W.Frag} {mg : Str → Option Value} {base : Heap} {C fi ft : Addr} {di dt : FuncData} {CW wi wt wl wb : Addr} {ei et el eb : FuncData}
theorem ok_wi (B : Blt mg) (R : Kpr K mg C fi ft di dt) (W : Wld K mg CW wi wt wl wb ei et el eb) (C_check_machine : T_check_machine P w K mg base) (C_check_history : T_check_history P w K mg base) : FnOk P w K mg base CX0 11 wi ei ["self", "machine", "hands"] (spWi CW C) := by
  have FK := ok_ki (P := P) (w := w) (base := base) B R C_check_machine C_check_history
  have bK : Binds K di ["self", "machine", "hands"] [] := R.Fi.bindsN fun _ _ _ _ _ _ us hl => match us, hl with | [_, _, _], _ => rfl
  refine W.Fi.ok sc_wi (fun vs H Q E ⟨a, vm, m, h, dx, e, _⟩ => by rw [e]; rfl) fun cdv A outer s H vs Q E hr ⟨a, vm, m, h, dx, e, ha, hvm, hm, hh, q⟩ => ?_
  subst e
  have c := ctx_of (P := P) (w := w) (K := K) (base := base) (f := wi) (cdv := cdv) (outer := outer) (H := H) (E := E) B sc_wi.nd hr
  suffices hw : WSs (bX P w K mg base N_wi "World.__init__" (defScope s_wi) wi cdv A outer s H E) (defBody s_wi) { nx := fun _ H' => Q .non H', rt := Q } (L2.start N_wi [.ref a, vm, .int (h : Nat)]) H by
    obtain ⟨t, pp, g⟩ := hw
    exact ⟨t, pp.nox, g⟩
  have pvs : ∀ {p : Pos}, PE (bX P w K mg base N_wi "World.__init__" (defScope s_wi) wi cdv A outer s H E) (.Name "self" p) (tVar 0) := pe_var rfl (Or.inl rfl) (by decide) (by decide)
  refine ⟨_, pss_cons (ps_fld pvs we rfl) (pss_cons (ps_fld pvs we rfl) (pss_cons (ps_fld pvs we rfl) (pss_one (ps_fld pvs (pe_make R.mkr FK hr rfl R.mg bK .nil pass0 (pa_cons we (pa_cons we pa_nil))) rfl)))), ?_⟩
  have E0 : EnvOk H H H (L2.start N_wi [.ref a, vm, .int (h : Nat)]) [.any, .arg (eM m), .arg (eN h)] := SlAll.env (.cons trivial slY (.cons (slA hvm) (slM _) (.cons (slA (.int _)) (slM _) .nil)))
  show WE _ _ _ _ _
  refine EvD.useD (eM m) E0 ?_ fun v1 H1 e1 r1 => ?_
  · exact ev_call C_check_machine hr (false, m) hm (eds_one (ev_var 1 rfl rfl))
  have ha1 := e1 _ _ ha
  refine ⟨_, rfl, a, CW, dx, [], rfl, ha1, W.cls, W.n1, (by decide : (0 : Nat) < 1000), ?_⟩
  rw [put1]
  generalize hH2 : upd H1 a (HO.ins CW dx (fs1 v1)) = H2
  have ha2 : H2 a = some (.ins CW dx (fs1 v1)) := by rw [← hH2]; exact upd_same
  have t12 : Tx H1 H2 := by rw [← hH2]; exact Tx.ins ha1
  have m2 : Mx1 a H H2 := by rw [← hH2]; exact (Ex.mx1 e1).upd
  have r1' := r1.tx t12 (imm_M m)
  have E2 : EnvOk H2 H2 H2 (L2.start N_wi [.ref a, vm, .int (h : Nat)]) [.obj CW [("machine", eM m)], .any, .arg (eN h)] := SlAll.env (.cons (obj1 ha2 r1') (slN _ _) (.cons trivial slY (.cons (slA (.int _)) (slM _) .nil)))
  show WE _ _ _ _ _
  refine EvD.useD (eH []) E2 ?_ fun v2 H3 e3 r3 => ?_
  · exact ev_call C_check_history hr (m, h, false, []) ⟨hm, hh, Nat.zero_le 10, fun _ z => by cases z⟩ (eds_cons (ev_fld 0 rfl W.cls W.n1 (lk0 _ _ _)) (eds_cons (ev_var 2 rfl rfl) (eds_one (ev_tup eds_nil))))
  have ha3 := e3 _ _ ha2
  refine ⟨_, rfl, a, CW, dx, fs1 v1, rfl, ha3, W.cls, W.n2, (by decide : (1 : Nat) < 1000), ?_⟩
  rw [put2]
  generalize hH4 : upd H3 a (HO.ins CW dx (fs2 v1 v2)) = H4
  have ha4 : H4 a = some (.ins CW dx (fs2 v1 v2)) := by rw [← hH4]; exact upd_same
  have t34 : Tx H3 H4 := by rw [← hH4]; exact Tx.ins ha3
  have m4 : Mx1 a H H4 := by rw [← hH4]; exact (m2.trans (Ex.mx1 e3)).upd
  have E4 : EnvOk H4 H4 H4 (L2.start N_wi [.ref a, vm, .int (h : Nat)]) [.any, .any, .arg (eN h)] := SlAll.env (.cons trivial slY (.cons trivial slY (.cons (slA (.int _)) (slM _) .nil)))
  show WE _ _ _ _ _
  refine EvD.useD (eN h) E4 ?_ fun v3 H5 e5 r5 => ?_
  · exact ev_var 2 rfl rfl
  have ha5 := e5 _ _ ha4
  refine ⟨_, rfl, a, CW, dx, fs2 v1 v2, rfl, ha5, W.cls, W.n3, (by decide : (2 : Nat) < 1000), ?_⟩
  rw [put3, r5.toInt]
  have t56 : Tx H5 (upd H5 a (HO.ins CW dx (fs3 v1 v2 (.int (h : Nat))))) := Tx.ins ha5
  have d1 := r1'.tx ((e3.tx.trans t34).trans (e5.tx.trans t56)) (imm_M m)
  have d2 := r3.tx (t34.trans (e5.tx.trans t56)) (imm_H [])
  generalize hH6 : upd H5 a (HO.ins CW dx (fs3 v1 v2 (.int (h : Nat)))) = H6 at d1 d2
  have ha6 : H6 a = some (.ins CW dx (fs3 v1 v2 (.int (h : Nat)))) := by rw [← hH6]; exact upd_same
  have m6 : Mx1 a H H6 := by rw [← hH6]; exact (m4.trans (Ex.mx1 e5)).upd
  have E6 : EnvOk H6 H6 H6 (L2.start N_wi [.ref a, vm, .int (h : Nat)]) [.obj CW (fsK m [] h), .any, .arg (eN h)] := SlAll.env (.cons (obj3 ha6 d1 d2) (slN _ _) (.cons trivial slY (.cons (slA (.int _)) (slM _) .nil)))
  show WE _ _ _ _ _
  refine EvD.useD (eM m) E6 ?_ fun v7 H7 e7 r7 => ?_
  · exact ev_fld 0 rfl W.cls W.n1 (fk1 m [] h)
  show WE _ _ _ _ _
  refine EvD.useD (eN h) (E6.mono e7) ?_ fun v8 H8 e8 r8 => ?_
  · exact ev_var 2 rfl rfl
  intro x dk nx nd ne
  have e78 := e7.trans e8
  have nxa : a ≠ x := fun z => by
    have := e78 _ _ ha6
    rw [z, nx] at this
    cases this
  have nda : a ≠ dk := fun z => by
    have := e78 _ _ ha6
    rw [z, nd] at this
    cases this
  have e89 : Ex H8 (upd (upd H8 dk (.own x)) x (.ins C dk [])) := (Ex.new nd).trans (Ex.new (by rw [upd_ne ne.symm]; exact nx))
  refine ⟨x, v7, m, h, dk, by rw [r8.toInt]; rfl, upd_same, (r7.ex e8).ex e89, hm, hh, fun H' mx hk => ⟨rfl, ?_⟩⟩
  have ha' : H' a = some (.ins CW dx (fs3 v1 v2 (.int (h : Nat)))) := mx a _ nxa (e89 _ _ (e78 _ _ ha6))
  refine ⟨_, rfl, a, CW, dx, fs3 v1 v2 (.int (h : Nat)), rfl, ha', W.cls, W.n4, (by decide : (3 : Nat) < 1000), ?_⟩
  rw [put4]
  have tx : Tx H6 H' := fun b xs hb => mx b _ (fun z => by
    have := e78 _ _ hb
    rw [z, nx] at this
    cases this) (e89 _ _ (e78 _ _ hb))
  have tf : Tx H' (upd H' a (HO.ins CW dx (fs4 v1 v2 (.int (h : Nat)) (.ref x)))) := Tx.ins ha'
  obtain ⟨dk', km, kg, hk1, hk2, hk3⟩ := hk
  refine q _ x ?_ ?_ ⟨nxa, ⟨dx, v1, v2, upd_same, (d1.tx tx (imm_M m)).tx tf (imm_M m), (d2.tx tx (imm_H [])).tx tf (imm_H [])⟩, [], ⟨dk', km, kg, by rw [upd_ne nxa.symm]; exact hk1, hk2.tx tf (imm_M m), hk3.tx tf (imm_H [])⟩, ⟨Nat.zero_le 10, fun _ z => by cases z⟩, rfl⟩
  · intro b o nb hb
    rw [upd_ne nb]
    have h8 := e78 _ _ (m6 b o nb hb)
    refine mx b o (fun z => ?_) (e89 _ _ h8)
    rw [z, nx] at h8
    cases h8
  · cases hx : H x with
    | none => rfl
    | some o =>
      have h8 := e78 _ _ (m6 x o (fun z => nxa z.symm) hx)
      rw [nx] at h8
      cases h8
theorem ok_wt (B : Blt mg) (R : Kpr K mg C fi ft di dt) (W : Wld K mg CW wi wt wl wb ei et el eb) (C_pressed : T_pressed P w K mg base) (C_renewed : T_renewed P w K mg base) (C_board_of : T_board_of P w K mg base) (C_counts_of : T_counts_of P w K mg base) : FnOk P w K mg base CX0 14 wt et ["self", "press"] (spWt CW C) := by
  have FK := ok_kt (P := P) (w := w) (base := base) B R C_renewed
  have bK : Binds K dt ["self", "press"] [] := R.Ft.bindsN fun _ _ _ _ _ _ us hl => match us, hl with | [_, _], _ => rfl
  have FL := ok_wl (P := P) (w := w) (base := base) B R W C_board_of C_counts_of
  have bL : Binds K el ["self"] [] := W.Fl.bindsN fun _ _ _ _ _ _ us hl => match us, hl with | [_], _ => rfl
  refine W.Ft.ok sc_wt (fun vs H Q E ⟨a, kp, vp, m, h, g, z, d, e, _⟩ => by rw [e]; rfl) fun cdv A outer s H vs Q E hr ⟨a, kp, vp, m, h, g, z, d, e, hk, hvp, hp, q⟩ => ?_
  subst e
  have c := ctx_of (P := P) (w := w) (K := K) (base := base) (f := wt) (cdv := cdv) (outer := outer) (H := H) (E := E) B sc_wt.nd hr
  suffices hw : WSs (bX P w K mg base N_wt "World.take" (defScope s_wt) wt cdv A outer s H E) (defBody s_wt) { nx := fun _ H' => Q .non H', rt := Q } (L2.start N_wt [.ref a, vp]) H by
    obtain ⟨t, pp, g⟩ := hw
    exact ⟨t, pp.nox, g⟩
  obtain ⟨hne, ⟨dx, vm, vg, ha, hvm, hvg⟩, g', ⟨dk, km, kg, hka, hkm, hkg⟩, hg', hgl⟩ := hk
  have pvs : ∀ {p : Pos}, PE (bX P w K mg base N_wt "World.take" (defScope s_wt) wt cdv A outer s H E) (.Name "self" p) (tVar 0) := pe_var rfl (Or.inl rfl) (by decide) (by decide)
  refine ⟨_, pss_cons (ps_set (i := 2) c.nd rfl (Or.inl rfl) we rfl (Or.inl rfl)) (pss_cons (ps_expr (pe_meth (pe_fld pvs rfl) R.cls R.mt FK (hr.mono (by decide)) bK .nil pass0 (pa_cons we pa_nil)) rfl) (pss_cons (ps_fld pvs (pe_var (i := 2) rfl (Or.inl rfl) (by decide) (by decide)) rfl) (pss_one (ps_ret (pe_meth0 pvs W.cls W.ml FL (hr.mono (by decide)) bL .nil pass0))))), ?_⟩
  have E0 : EnvOk H H H (L2.start N_wt [.ref a, vp]) [.obj CW (fsK m g h), .arg (eP (z, d)), .any] := SlAll.env (.cons (obj3 ha hvm hvg) (slN _ _) (.cons (slA hvp) (slM _) (.cons trivial slY .nil)))
  show WE _ _ _ _ _
  refine EvD.useD (eH (g ++ [(z, d)])) E0 ?_ fun v1 H1 e1 r1 => ?_
  · exact ev_call C_pressed hr (m, h, g, z, d) ⟨hp.1, hp.2.1, hp.2.2.1, hp.2.2.2.1, hp.2.2.2.2.1⟩ (eds_cons (ev_fld 0 rfl W.cls W.n1 (fk1 m g h)) (eds_cons (ev_fld 0 rfl W.cls W.n3 (fk3 m g h)) (eds_cons (ev_fld 0 rfl W.cls W.n2 (fk2 m g h)) (eds_one (ev_var 1 rfl rfl)))))
  refine ⟨_, rfl, a, CW, dx, _, .ref kp, rfl, e1 _ _ ha, W.cls, W.n4, (lk _ _ q_km _ _).trans ((lk _ _ q_kh _ _).trans ((lk _ _ q_kn _ _).trans (lk0 _ _ _))), ?_⟩
  refine ⟨kp, dk, _, rfl, e1 _ _ hka, (lk _ _ (by decide +kernel) _ _).trans ((lk _ _ (by decide +kernel) _ _).trans ((lk _ _ (by decide +kernel) _ _).trans rfl)), ?_⟩
  have E1 : EnvOk H1 H1 H1 ((L2.start N_wt [.ref a, vp]).set 2 (some v1)) [.any, .arg (eP (z, d)), .any] := SlAll.env (.cons trivial slY (.cons (slA (hvp.ex e1)) (slM _) (.cons trivial slY .nil)))
  show WE _ _ _ _ _
  refine EvD.useD (eP (z, d)) E1 ?_ fun v2 H2 e2 r2 => ?_
  · exact ev_var 1 rfl rfl
  have e12 := e1.trans e2
  refine ⟨kp, v2, m, h, g', z, d, rfl, ⟨dk, km, kg, e12 _ _ hka, hkm.ex e12, hkg.ex e12⟩, r2, ⟨hp.1, hp.2.1, hg', hp.2.2.2.1, hp.2.2.2.2.1, by rw [hgl]; exact hp.2.2.2.2.2⟩, fun v3 H3 g3 mx ⟨dk3, km3, kg3, k1, k2, k3⟩ hg3 hl3 => ?_⟩
  have ha3 : H3 a = some _ := mx a _ hne (e12 _ _ ha)
  have t23 : Tx H2 H3 := fun b xs hb => mx b _ (fun z => by
    rw [z, e12 _ _ hka] at hb
    cases hb) hb
  refine ⟨_, rfl, _, rfl, a, CW, dx, _, rfl, ha3, W.cls, W.n2, (by decide : (4 : Nat) < 1000), ?_⟩
  rw [putH]
  generalize hH4 : upd H3 a (HO.ins CW dx (fs4 vm v1 (.int (h : Nat)) (.ref kp))) = H4
  have ha4 : H4 a = some (.ins CW dx (fs4 vm v1 (.int (h : Nat)) (.ref kp))) := by rw [← hH4]; exact upd_same
  have t34 : Tx H3 H4 := by rw [← hH4]; exact Tx.ins ha3
  have hlen : (g ++ [(z, d)]).length = g.length + 1 := List.length_append
  have hvg2 : VH h m.ds.length (g ++ [(z, d)]) := ⟨by rw [hlen]; have := hp.2.2.2.2.2; omega, fun l hl => by
    rcases List.mem_append.mp hl with w | w
    · exact hp.2.2.1.2 l w
    · cases List.mem_singleton.mp w
      exact ⟨hp.2.2.2.1, hp.2.2.2.2.1⟩⟩
  have hw4 : WdOk CW C H4 a kp m h (g ++ [(z, d)]) := ⟨hne, ⟨dx, vm, v1, ha4, ((hvm.ex e12).tx t23 (imm_M m)).tx t34 (imm_M m), ((r1.ex e2).tx t23 (imm_H _)).tx t34 (imm_H _)⟩, g3, ⟨dk3, km3, kg3, by rw [← hH4, upd_ne hne.symm]; exact k1, k2.tx t34 (imm_M m), k3.tx t34 (imm_H _)⟩, hg3, by rw [hl3, hgl, hlen]⟩
  refine ⟨_, rfl, a, dx, _, rfl, ha4, (lk _ _ (by decide +kernel) _ _).trans ((lk _ _ (by decide +kernel) _ _).trans ((lk _ _ (by decide +kernel) _ _).trans ((lk _ _ (by decide +kernel) _ _).trans rfl))), ?_⟩
  refine ⟨a, kp, m, h, g ++ [(z, d)], rfl, hw4, ⟨hp.1, hp.2.1, hvg2⟩, fun v5 H5 e5 => ?_⟩
  obtain ⟨_, ⟨dx5, vm5, vg5, w1, w2, w3⟩, g5, ⟨dk5, km5, kg5, x1, x2, x3⟩, w4, w5⟩ := hw4
  refine q v5 H5 (fun b o n1 n2 hb => e5 _ _ (by rw [← hH4, upd_ne n1]; exact mx b o n2 (e12 _ _ hb))) ⟨hne, ⟨dx5, vm5, vg5, e5 _ _ w1, w2.ex e5, w3.ex e5⟩, g5, ⟨dk5, km5, kg5, e5 _ _ x1, x2.ex e5, x3.ex e5⟩, w4, w5⟩
end

end Ow
end

section
set_option linter.all false
set_option maxRecDepth 100000
set_option maxHeartbeats 4000000
set_option autoImplicit false
/-! The law itself. -/
namespace Ow
open PySem L2 OwL Om
open PyProof.Rows (envOfC)

theorem CmpOk.imm {m : Mach} {h : Nat} {g g2 : Hist} {d : PyData} (k : CmpOk m h g g2 d) : imm d = true := by
  rcases k with ⟨_, rfl⟩ | ⟨_, _, st, rfl, _⟩ | ⟨_, _, rfl⟩
  · rfl
  · exact imms_cons.mpr ⟨rfl, imms_cons.mpr ⟨imms_S st, rfl⟩⟩
  · exact imms_cons.mpr ⟨rfl, imms_cons.mpr ⟨imms_map fun z _ => imm_Bk z, rfl⟩⟩
/-- its first word -/
theorem CmpOk.head {m : Mach} {h : Nat} {g g2 : Hist} {d : PyData} (k : CmpOk m h g g2 d) : ∃ r, d = .tuple (.str (if counts h g = counts h g2 then (if same m h g g2 = true then "alike" else "apart") else "numbers") :: r) := by
  rcases k with ⟨h1, rfl⟩ | ⟨h1, h2, st, rfl, _⟩ | ⟨h1, h2, rfl⟩
  · rw [if_neg h1]
    exact ⟨_, rfl⟩
  · rw [if_pos h1, if_pos h2]
    exact ⟨_, rfl⟩
  · rw [if_pos h1, if_neg (by rw [h2]; exact Bool.false_ne_true)]
    exact ⟨_, rfl⟩
theorem far_self : ∀ g : Hist, far g g = 0 := by
  intro g
  induction g using snoc_ind with
  | h0 => rfl
  | h1 u l ih =>
    have := far_step (p := u) (q := []) (u := u) (z := l.1) (d0 := l.2) (d := l.2) rfl fun y => rfl
    rw [List.append_nil, ih, if_pos rfl] at this
    exact this
theorem CmpOk.self {m : Mach} {h : Nat} {g : Hist} {d : PyData} (k : CmpOk m h g g d) : d = .tuple [.str "alike", .tuple []] := by
  rcases k with ⟨h1, _⟩ | ⟨_, _, st, rfl, hw⟩ | ⟨_, h2, _⟩
  · exact absurd rfl h1
  · have := hw.2
    rw [far_self] at this
    rw [List.length_eq_zero_iff.mp this]
    rfl
  · have : same m h g g = true := decide_eq_true rfl
    rw [this] at h2
    cases h2
section
variable {X : Cx} {S : List Sl} {p : Addr} {a b e t : Expr} {es : List Expr} {d : PyData} {R : PyData → Prop} {pos : Pos} {x y : Str} {P : PB} {st : Stmt} {sts : List Stmt}
/-- from a statement on, the box is drawn from -/
theorem run_toB {Pp : Pst} (i : Nat) {g s : Int} (hb : BxOk g s) (hi : S[i]? = some (Sl.lst [.int g, .int s])) (hno : ∀ (j : Nat) (ds : List PyData), (S.set i .any)[j]? ≠ some (Sl.lst ds)) (h : ∀ p, RunB X sts (S.set i (.fix (.ref p))) p { nx := Pp.nx, rt := Pp.rt }) : RunS X sts S Pp := fun A B H σ D E K => by
  obtain ⟨im, p, xs, h1, h2, h3, h4⟩ := E.vlst hi
  have e : xs = [V.int g, V.int s] := by
    cases h4 with
    | cons r1 h4 =>
      cases h4 with
      | cons r2 h4 =>
        cases h4
        rw [r1.toInt, r2.toInt]
  subst e
  have Ef : EnvOk A B H σ (S.set i (.fix (.ref p))) := by
    have := E.put (i := i) (o := some (.ref p)) (s := .fix (.ref p)) rfl fun _ z => nomatch z
    rw [set_same h1] at this
    exact this
  refine h p A B H σ D ⟨Ef, h2, ⟨g, s, hb, h3⟩, fun j ds hj => ?_⟩ ⟨fun S' σ' H' q E' => K.nx S' σ' H' q E'.env, fun d v H' q im e b r => K.rt d v H' q e r⟩
  rcases get_set hj with ⟨_, _, z⟩ | ⟨n, hj⟩
  · cases z
  · exact absurd (show (S.set i .any)[j]? = some (Sl.lst ds) by rw [List.getElem?_set_ne n]; exact hj) (hno j ds)
/-- x, y = a, b, both drawn -/
theorem runb_parX (i j : Nat) {Ra Rb : PyData → Prop} {px py pt pt2 : Pos} {kt k2 : Nat} (c : Ctx X) (ha : EvX X a S p Ra) (hb : EvX X b S p Rb) (hij : i ≠ j) (hn : ∀ d1 d2, Ra d1 → Rb d2 → P.nx ((S.set i (.dat d1)).set j (.dat d2))) (hi : X.N[i]? = some x := by rfl) (hj : X.N[j]? = some y := by rfl)
    (hx : X.env.scope.names.lookup x = some .local := by rfl) (hy : X.env.scope.names.lookup y = some .local := by rfl) (hw : swappedStores [.Tuple [.Name x px, .Name y py] kt pt] (.Tuple [a, b] k2 pt2) X.env = pure (some [x, y]) := by rfl)
    (hs : swapsWithSole [.Tuple [.Name x px, .Name y py] kt pt] (.Tuple [a, b] k2 pt2) pos.line X.env = pure false := by rfl) (h1 : starEach [a, b] X.env = (false, eval a X.env) :: starEach [b] X.env := by rfl) (h2 : starEach [b] X.env = (false, eval b X.env) :: starEach [] X.env := by rfl) :
    Run1B X (.Assign [.Tuple [.Name x px, .Name y py] kt pt] (.Tuple [a, b] k2 pt2) pos) S p P := fun A B H σ D E K =>
  ⟨_, ps_par c.calm c.nd hi hj hij hx hy (pa_cons we (pa_cons we pa_nil h2) h1) hw hs, ha A B H σ E _ fun d1 v1 H1 o1 im1 E1 r1 m1 => hb A B H1 σ E1 _ fun d2 v2 H2 o2 im2 E2 r2 m2 => ⟨v1, v2, rfl, K.nx _ _ H2 (hn d1 d2 o1 o2) ((E2.setDat (i := i) im1 (r1.tx (m2.tx E1.bx) im1)).setDat im2 r2)⟩⟩
end


section
variable {X : Cx} {S : List Sl} {p : Addr} {a b e t : Expr} {es : List Expr} {d : PyData} {R : PyData → Prop} {pos : Pos} {x y : Str}
/-- arguments, the last of which a word is known of -/
def EvDsR (X : Cx) (es : List Expr) (S : List Sl) (Rs : List PyData → Prop) : Prop := ∀ A B H σ, EnvOk A B H σ S → ∀ Q : List V → Hp → Prop, (∀ ds vs H', Rs ds → Ex H H' → Dvs H' vs ds → Q vs H') → WA X es σ H Q
theorem edr_last (h : EvR X e S R) (hst : starEach [e] X.env = (false, eval e X.env) :: starEach [] X.env := by rfl) : EvDsR X [e] S (fun ds => ∃ d, ds = [d] ∧ R d) := fun A B H σ E Q q =>
  ⟨_, pa_cons we pa_nil hst, h A B H σ E _ fun d v H1 o e1 r1 => q [d] [v] H1 ⟨d, rfl, o⟩ e1 (.cons r1 .nil)⟩
theorem edr_cons {Rs : List PyData → Prop} (h : EvD X e S d) (hs : EvDsR X es S Rs) (hst : starEach (e :: es) X.env = (false, eval e X.env) :: starEach es X.env := by rfl) : EvDsR X (e :: es) S (fun ds => ∃ r, ds = d :: r ∧ Rs r) := fun A B H σ E Q q =>
  ⟨_, pa_cons we wa hst, h A B H σ E _ fun v H1 e1 r1 => hs A B H1 σ (E.mono e1) _ fun ds vs H2 o e2 r2 => q (d :: ds) (v :: vs) H2 ⟨ds, rfl, o⟩ (e1.trans e2) (.cons (r1.ex e2) r2)⟩
theorem ev_callE {α : Type} {enc : α → List PyData} {pre : α → Prop} {out : α → PyData} {k j : Nat} {pps : List Str} {pp : Pos} {Rs : List PyData → Prop} (F : CalF X.prog X.w X.K X.mg X.base x k pps (spF enc pre out)) (hr : Room j X.A) (ha : EvDsR X (e :: es) S Rs) (hz : ∀ ds, Rs ds → ∃ z, ds = enc z ∧ pre z ∧ out z = d) (hk : k ≤ j := by decide) (hg : Gl X x := by rfl) (hdb : (x == ("__debug__" : Str)) = false := by decide)
    (he : starEach (e :: es) X.env = (false, eval e X.env) :: starEach es X.env := by rfl) (hpl : (backTo pos (starEach es X.env)).any (·.1) = false := by rfl) : EvD X (.Call (.Name x pp) (e :: es) [] pos) S d := fun A B H σ E Q q => by
  obtain ⟨f, fd, h1, h2, h3, h4⟩ := F.ex
  refine ⟨_, pe_call h4 (hr.mono hk) hg h1 h2 h3 .nil pass0 wa hdb he hpl, ha A B H σ E _ fun ds vs H1 o e1 r1 => ?_⟩
  obtain ⟨z, rfl, hp, hd⟩ := hz ds o
  exact ⟨z, by rw [List.append_nil]; exact r1, hp, fun v H2 e2 r2 => q v H2 (e1.trans e2) (hd ▸ r2)⟩
/-- the first item of a tuple of which a word is known -/
theorem evr_ix0 {j : Nat} {pc : Pos} (h : EvR X e S (fun y => ∃ r, y = .tuple (d :: r))) (hs : PlainIx (.Constant (.int 0) j pc) := by intro _ _; rfl) : EvD X (.Subscript e (.Constant (.int 0) j pc) pos) S d := fun A B H σ E Q q =>
  ⟨_, pe_ix ix_tup we pe_int hs, h A B H σ E _ fun y v H1 o e1 r1 => by
    obtain ⟨r, rfl⟩ := o
    obtain ⟨p, xs, rfl, h1, h2⟩ := r1.toTup
    cases h2 with
    | cons g1 g2 => exact ⟨p, _, 0, _, rfl, rfl, .inl (.inl h1), by unfold atI ixN; rw [if_pos (by decide), if_pos (by simp)]; rfl, q _ H1 e1 g1⟩⟩
/-- [list(x) for x in l] -/
theorem ev_lists {scope : Scope} {tg elt iter : Expr} {g : Hist} (c : Ctx X) (own : List (Str × Nat)) (ok : blkC X.N X.env.scope scope own = true) (js : List Nat) (S1 : Nat × Nat → List Sl) {S0 : List Sl} (hi : ItD X tg iter S S0 (g.map fun l => .one (.dat (eL l)))) (hz : g.length ≤ 1000) (hj : ∀ j ∈ js, j ∈ own.map (·.2))
    (hg : ∀ b ∈ g, ∀ s H C cl fp, GTo (X.blk s H scope (compEnvC scope cl C X.env) fp) tg (.one (.dat (eL b))) js (wipeS S (own.map (·.2))) (S1 b)) (hb : ∀ b ∈ g, ∀ s H C cl fp, EvN (X.blk s H scope (compEnvC scope cl C X.env) fp) elt (S1 b) [eN b.1, eN b.2]) (hs : ∀ x, foldedSetIterable iter X.env x = pure x := by intro _; rfl) (hw : ∀ A B H σ, EnvOk A B H σ S → EnvOk A B H σ S0 := by first | exact fun _ _ _ _ E => E | exact fun _ _ _ _ E => E.forget') : EvD X (.ListComp elt [⟨tg, iter, [], 0⟩] scope pos) S (eHb true g) := fun A B H σ E Q q => by
  refine ⟨_, pe_lc c.calm c.nd wi (blkOk_by ok) (fun s H C cl fp => ⟨fun pins s0 σ H0 v u Q I r (hq : ∀ s H' C cl fp, WG (X.blk s H' scope (compEnvC scope cl C X.env) fp) tg v σ H0 Q) => (hq s H C cl fp).elim fun t ⟨p, q⟩ => p.run pins s0 σ H0 v u Q I r q⟩) (fun s H C cl fp => ⟨fun pins s0 σ H0 Q I (hq : ∀ s H' C cl fp, WTs (X.blk s H' scope (compEnvC scope cl C X.env) fp) [] σ H0 Q) => (hq s H C cl fp).elim fun t ⟨p, q⟩ => p.run pins s0 σ H0 Q I q⟩)
    (fun s H C cl fp => ⟨fun pins s0 σ H0 Q I (hq : ∀ s H' C cl fp, WE (X.blk s H' scope (compEnvC scope cl C X.env) fp) elt σ H0 Q) => (hq s H C cl fp).elim fun t ⟨p, q⟩ => p.run pins s0 σ H0 Q I q⟩) hs, ?_⟩
  refine hi A B H σ E _ ?_
  intro J H1 e1 hJ Dl nD
  obtain ⟨G, bg, EG, hG⟩ := (hw _ _ _ _ (E.mono e1)).grow
  have IO := hJ G EG.ax hG
  have nB : B Dl = none := E.ex.back (e1.back nD)
  refine ⟨fun i m H2 => m = g.length - i ∧ i ≤ g.length ∧ ∃ us, Ex H1 (er Dl H2) ∧ H2 Dl = some (.lst us) ∧ Dvs (er Dl H2) us ((g.take i).map (eLb true)), ⟨_, rfl, Nat.zero_le _, [], fun a o h => by rw [er_ne _ (ne_of_none h nD), upd_ne (ne_of_none h nD)]; exact h, upd_same, .nil⟩, ?_⟩
  rintro i m H2 ⟨rfl, hle, us, e2, hD, hus⟩
  have e2' : Ex H1 H2 := e2.trans (er_ex Dl H2)
  have g2 : Ex G H2 := EG.ex.trans e2'
  by_cases hlt : i < g.length
  · have hlt' : i < (g.map fun l => Itm.one (.dat (eL l))).length := by rw [List.length_map]; exact hlt
    refine .inr ⟨IO.go i H2 g2 hlt', fun H3 => ∃ us, Ex H1 (er Dl H3) ∧ H3 Dl = some (.lst us) ∧ Dvs (er Dl H3) us ((g.take (i + 1)).map (eLb true)), fun H3 h => ⟨g.length - (i + 1), by omega, rfl, hlt, h⟩, fun x H3 hy => ?_⟩
    obtain ⟨e3, it, hit, iv⟩ := IO.yld i H2 x H3 g2 hy hlt'
    rw [List.getElem?_map, List.getElem?_eq_getElem hlt] at hit
    cases (show _ = it from Option.some.inj hit)
    have hbm : g[i] ∈ g := List.getElem_mem hlt
    have E3 : EnvOk A B H3 (wipe σ (own.map (·.2))) (wipeS S (own.map (·.2))) := (E.wiped _).mono ((e1.trans e2').trans e3)
    intro s H' C cl fp
    refine hg _ hbm s H' C cl fp A B H3 _ x E3 iv _ ?_
    intro σ4 E4 w4
    refine ⟨(w4 _ hj).trans wipe_idem, ?_⟩
    intro s H' C cl fp
    refine ets_nil A B H3 σ4 E4 _ ?_
    intro H5 e5
    rw [if_pos rfl]
    intro s H' C cl fp
    refine hb _ hbm s H' C cl fp A B H5 σ4 (E4.mono e5) _ ?_
    intro q0 xs H6 nq e6 k1 k2
    have e26 : Ex H2 H6 := (e3.trans e5).trans e6
    have hD6 := e26 _ _ hD
    have nqD : q0 ≠ Dl := fun z => by
      rw [z, (e3.trans e5) _ _ hD] at nq
      cases nq
    have erx : Ex (er Dl H2) (er Dl (upd H6 Dl (HO.lst (us ++ [V.ref q0])))) := fun b o hb => by
      have nb : b ≠ Dl := fun z => by
        rw [z, er_p] at hb
        cases hb
      rw [er_ne _ nb] at hb ⊢
      rw [upd_ne nb]
      exact e26 _ _ hb
    have tx : Tx H6 (er Dl (upd H6 Dl (HO.lst (us ++ [V.ref q0])))) := fun b ys hb => by
      have nb : b ≠ Dl := fun z => by
        rw [z, hD6] at hb
        cases hb
      rw [er_ne _ nb, upd_ne nb]
      exact hb
    refine ⟨us, hD6, szl (by have := hus.length; rw [List.length_map, List.length_take] at this; omega), us ++ [V.ref q0], e2.trans erx, upd_same, ?_⟩
    rw [List.take_succ_eq_append_getElem hlt, List.map_append]
    exact (hus.ex erx).append (.cons (.lst (by rw [er_ne _ nqD, upd_ne nqD]; exact k1) (k2.tx tx rfl)) .nil)
  · have e : i = g.length := by omega
    subst e
    rw [List.take_length] at hus
    exact .inl ⟨IO.stop _ H2 g2 (by rw [List.length_map]), q _ H2 (e1.trans e2') (.lst hD (hus.ex (er_ex Dl H2)))⟩
end


section
variable {X : Cx} {S : List Sl} {pos pc : Pos}
theorem evr_kw {a1 a2 a3 a4 : Expr} {k1 k2 k3 k4 : Pos} {fc : Addr} {fdc : FuncData} {j : Nat} {m : Mach} {h : Nat} {g g2 : Hist} (Fn : FnOk X.prog X.w X.K X.mg X.base CX0 14 fc fdc ["machine", "hands", "one", "other"] S_compare) (hm : X.mg "compare" = some (.ref fc)) (hkp : PySem.W.keepIn X.K (.ref fc) = true)
    (hkb : KBn X.K fdc ["machine", "hands", "one", "other"] 0 ["other", "one", "hands", "machine"] (fun _ ws => perm4 ws) (fun _ zs => perm4 zs)) (hr : Room j X.A) (hj : 14 ≤ j) (hp : VM m ∧ VHd h ∧ VH h m.ds.length g ∧ VH h m.ds.length g2) (h1 : EvD X a1 S (eHb true g2)) (h2 : EvD X a2 S (eH g)) (h3 : EvD X a3 S (eN h)) (h4 : EvD X a4 S (eMb true m)) (hg : Gl X "compare" := by rfl)
    (hall : (backToKw pos (keywordEach [⟨some "other", a1, k1⟩, ⟨some "one", a2, k2⟩, ⟨some "hands", a3, k3⟩, ⟨some "machine", a4, k4⟩] X.env)).all (·.1.isSome) = true := by rfl) (hks : (backToKw pos (keywordEach [⟨some "other", a1, k1⟩, ⟨some "one", a2, k2⟩, ⟨some "hands", a3, k3⟩, ⟨some "machine", a4, k4⟩] X.env)).filterMap (·.1) = (["other", "one", "hands", "machine"] : List Str) := by rfl)
    (hpl : ((backTo pos (starEach [] X.env)).any (·.1) || (backToKw pos (keywordEach [⟨some "other", a1, k1⟩, ⟨some "one", a2, k2⟩, ⟨some "hands", a3, k3⟩, ⟨some "machine", a4, k4⟩] X.env)).any (·.1.isNone)) = false := by rfl) :
    EvR X (.Call (.Name "compare" pc) [] [⟨some "other", a1, k1⟩, ⟨some "one", a2, k2⟩, ⟨some "hands", a3, k3⟩, ⟨some "machine", a4, k4⟩] pos) S (CmpOk m h g g2) := fun A B H σ E Q q =>
  ⟨_, pe_callK0 Fn (hr.mono hj) hg hm hkp hkb pass0 (pk_cons we (pk_cons we (pk_cons we (pk_cons we pk_nil)))) hall hks (by decide) hpl, h1 A B H σ E _ fun v1 H1 e1 r1 => h2 A B H1 σ (E.mono e1) _ fun v2 H2 e2 r2 => h3 A B H2 σ (E.mono (e1.trans e2)) _ fun v3 H3 e3 r3 => h4 A B H3 σ (E.mono ((e1.trans e2).trans e3)) _ fun v4 H4 e4 r4 =>
    ⟨rfl, ((true, m), h, (false, g), (true, g2)), .cons r4 (.cons (r3.ex e4) (.cons (r2.ex (e3.trans e4)) (.cons (r1.ex (e2.trans (e3.trans e4))) .nil))), hp, fun d v H' o e r => q d v H' o (((e1.trans e2).trans (e3.trans e4)).trans e) r⟩⟩
end
theorem EvR.impR {X : Cx} {S : List Sl} {e : Expr} {R' : PyData → Prop} (R : PyData → Prop) (h : EvR X e S R) (hr : ∀ d, R d → R' d) : EvR X e S R' := fun A B H σ E Q q => h A B H σ E Q fun d v H' o e1 r1 => q d v H' (hr d o) e1 r1
theorem it_H {X : Cx} {S : List Sl} {tg e : Expr} {g : Hist} (h : EvD X e S (eH g)) : ItD X tg e S S (g.map fun l => .one (.dat (eL l))) := dats_map eL g ▸ it_tup h (imms_L g)
def wordOf (m : Mach) (h : Nat) (g g2 : Hist) : Str := if counts h g = counts h g2 then (if same m h g g2 = true then "alike" else "apart") else "numbers"
theorem word_ok (m : Mach) (h : Nat) (g g2 : Hist) : PyData.strOk (wordOf m h g g2) = true := by
  unfold wordOf
  by_cases a : counts h g = counts h g2
  · rw [if_pos a]
    by_cases b : same m h g g2 = true
    · rw [if_pos b]
      decide +kernel
    · rw [if_neg b]
      decide +kernel
  · rw [if_neg a]
    decide +kernel
theorem word_alike {m : Mach} {h : Nat} {g g2 : Hist} (k : (wordOf m h g g2 == "alike") = true) : counts h g = counts h g2 ∧ same m h g g2 = true := by
  unfold wordOf at k
  by_cases a : counts h g = counts h g2
  · rw [if_pos a] at k
    by_cases b : same m h g g2 = true
    · exact ⟨a, b⟩
    · rw [if_neg b] at k
      exact absurd k (by decide +kernel)
  · rw [if_neg a] at k
    exact absurd k (by decide +kernel)
theorem CmpOk.word {m : Mach} {h : Nat} {g g2 : Hist} {d : PyData} (k : CmpOk m h g g2 d) : ∃ r, d = .tuple (.str (wordOf m h g g2) :: r) := k.head

end Ow
end

section
set_option linter.all false
set_option maxRecDepth 100000
set_option maxHeartbeats 4000000
set_option autoImplicit false
/-! The law itself. -/
namespace Ow
open PySem L2 OwL Om
open PyProof.Rows (envOfC)

abbrev s_law : Stmt := top 111
abbrev N_law : List Str := ["_law_script", "_law_k", "_law_box_here", "_law_machine_here", "_law_hands", "_law_one", "_law_other_here", "_law_found", "_law_more", "_law_world", "_law_hand", "_law_deed", "_law_letter"]
theorem sc_law : FnScope N_law ["_law_script"] (defScope s_law) := ⟨rfl, rfl, rfl, by decide +kernel, rfl, by decide +kernel, by decide +kernel⟩
/-- what the law's def takes -/
structure Need (P : Program) (w : World) (K : PySem.W.Frag) (mg : Str → Option Value) (base : Heap) (C fi ft : Addr) (di dt : FuncData) (CW wi wt wl wb : Addr) (ei et el eb : FuncData) (fc : Addr) (fdc : FuncData) : Prop where
  box : T_lw_box P w K mg base
  machine : T_lw_machine P w K mg base
  take : T_lw_take P w K mg base
  history : T_lw_history P w K mg base
  other : T_lw_other P w K mg base
  compare : T_compare P w K mg base
  cmg : mg "compare" = some (.ref fc)
  ckp : PySem.W.keepIn K (.ref fc) = true
  cfn : FnOk P w K mg base CX0 14 fc fdc ["machine", "hands", "one", "other"] S_compare
  ckb : KBn K fdc ["machine", "hands", "one", "other"] 0 ["other", "one", "hands", "machine"] (fun _ ws => perm4 ws) (fun _ zs => perm4 zs)
  compared : T_lw_compared P w K mg base
  apart : T_lw_apart2 P w K mg base
  kpr : Kpr K mg C fi ft di dt
  wld : Wld K mg CW wi wt wl wb ei et el eb
  mkw : FnOk P w K mg base CX0 11 wi ei ["self", "machine", "hands"] (spWi CW C)
  tkw : FnOk P w K mg base CX0 14 wt et ["self", "press"] (spWt CW C)
  bsw : FnOk P w K mg base CX0 15 wb eb ["self", "history"] (spWb CW C)
def S_law (K : PySem.W.Frag) : Sp := fun vs H Q _ => ∃ (l : List Int) (v : V), vs = [v] ∧ PreL K l H v ∧ ∀ H', Q (.bl true) H'
section
variable {P : Program} {w : World} {K : PySem.W.Frag} {mg : Str → Option Value} {base : Heap} {C fi ft : Addr} {di dt : FuncData} {CW wi wt wl wb : Addr} {ei et el eb : FuncData} {fc : Addr} {fdc : FuncData} {f : Addr} {fd : FuncData}
theorem EnvOk.mut2 {A B0 H H' : Hp} {σ : L2.St} {S : List Sl} (E : EnvOk A B0 H σ S) (hno : ∀ (i : Nat) (ds : List PyData), S[i]? ≠ some (Sl.lst ds)) (ex : Ex B0 H') (tx : Tx H H') : EnvOk A B0 H' σ S where
  ax := E.ax
  ex := ex
  len := E.len
  sl := fun i o s h1 h2 => by
    have q := E.sl i o s h1 h2
    cases s with
    | any => trivial
    | fix u => exact q
    | obj C0 fsd0 => exact q
    | pre F0 => exact q
    | arg d => exact q
    | dat d =>
      obtain ⟨a, u, b, r⟩ := q
      exact ⟨a, u, b, r.tx tx a⟩
    | lst ds => exact absurd h2 (hno i ds)
  dis := fun i j ds es p h1 => absurd h1 (hno i ds)
theorem f_law (B : Blt mg) (F : FunD K "law" "law" (defArgs s_law) (defBody s_law) (defScope s_law) [] [] f fd) (Nd : Need P w K mg base C fi ft di dt CW wi wt wl wb ei et el eb fc fdc) : FnOk P w K mg base CX0 17 f fd ["_law_script"] (S_law K) := by
  refine F.ok sc_law (fun vs H Q E ⟨l, v, e, _⟩ => by rw [e]; rfl) fun cdv A outer s H vs Q E hr ⟨l, v, e, hv, q⟩ => ?_
  subst e
  have c := ctx_of (P := P) (w := w) (K := K) (base := base) (f := f) (cdv := cdv) (outer := outer) (H := H) (E := E) B sc_law.nd hr
  have E0 : EnvOk H H H (L2.start N_law [v]) [.pre (PreL K l), .any, .any, .any, .any, .any, .any, .any, .any, .any, .any, .any, .any] := SlAll.env (.cons ⟨v, rfl, hv⟩ (fun _ z => nomatch z) (.cons trivial slY (.cons trivial slY (.cons trivial slY (.cons trivial slY (.cons trivial slY (.cons trivial slY (.cons trivial slY (.cons trivial slY (.cons trivial slY (.cons trivial slY (.cons trivial slY (.cons trivial slY .nil)))))))))))))
  suffices main : RunS (bX P w K mg base N_law "law" (defScope s_law) f cdv A outer s H E) (defBody s_law) [.pre (PreL K l), .any, .any, .any, .any, .any, .any, .any, .any, .any, .any, .any, .any] { nx := fun _ => False, rt := fun d => d = .bool true } by
    obtain ⟨t, p, g⟩ := main H H H _ { nx := fun _ H' => Q .non H', rt := Q } E0 ⟨fun _ _ _ z _ => z.elim, fun d v H' z e1 r1 => by
      subst z
      rw [r1.toBl]
      exact q H', fun _ _ _ _ z _ _ _ _ => z.elim⟩
    exact ⟨t, p.nox, g⟩
  refine run_cons (run_for c (items := (List.range 3).map fun k => .one (.dat (eN k))) (S0 := [.pre (PreL K l), .any, .any, .any, .any, .any, .any, .any, .any, .any, .any, .any, .any]) (S' := [.pre (PreL K l), .any, .any, .any, .any, .any, .any, .any, .any, .any, .any, .any, .any]) (rng_N 3 ▸ it_range c ev_int (by decide) (by decide)) (fun _ _ _ _ E => E) (for_run (fun k => .one (.dat (eN k))) (fun _ => [.pre (PreL K l), .any, .any, .any, .any, .any, .any, .any, .any, .any, .any, .any, .any]) _ fun u k v e => ⟨[1], _, g_name 1 c.nd, ?_⟩) (run_one (run_ret ev_bool rfl)))
  have hk : k < 3 := List.mem_range.mp (by rw [← e]; simp)
  refine run_cons (run_set 2 (.lst [.int (boxG l k), .int (boxS l k)]) c ⟨rfl, ev_box Nd.box hr (evp_var 0 rfl) (ev_var 1 rfl rfl) hk⟩ ?_)
  refine run_toB 2 (box_ok l k) rfl (fun j ds => by
    match j with
    | 0 => exact nofun
    | 1 => exact nofun
    | 2 => exact nofun
    | 3 => exact nofun
    | 4 => exact nofun
    | 5 => exact nofun
    | 6 => exact nofun
    | 7 => exact nofun
    | 8 => exact nofun
    | 9 => exact nofun
    | 10 => exact nofun
    | 11 => exact nofun
    | 12 => exact nofun
    | n + 13 => exact nofun) fun p => ?_
  refine runb_cons (runb_parX 3 4 (Ra := fun d => ∃ m, d = eM m ∧ VM m) (Rb := fun d => ∃ h, d = eN h ∧ VHd h) c (evx_call Nd.machine hr 2 rfl (exs_cons (EvX.of (R := fun d => d = .int 4) ev_int rfl rfl) (exs_cons (EvX.of (R := fun d => d = .int 2) ev_int rfl rfl) exs_nil)) (fun ds ⟨y, ys, e1, e2, y2, ys2, e3, e4, e5⟩ => ⟨(), by rw [e1, e2, e3, e4, e5], trivial, fun d h => h⟩)) (evx_bin (EvX.of (R := fun d => d = .int 2) ev_int rfl rfl) (evx_take (P0 := P) (n := 2) Nd.take hr 2 rfl ev_int (by decide) (by decide)) fun da db e1 ⟨r, e2, hr⟩ => by subst e1; subst e2; exact ⟨_, od_add, rfl, 2 + r, congrArg PyData.int (by omega), ⟨by omega, by omega⟩⟩) (by decide) fun d1 d2 ⟨m, e1, hm⟩ ⟨h, e2, hh⟩ => ?_)
  subst e1
  subst e2
  have d6 := hm.d6
  refine runb_cons (runb_setX 5 (R := fun d => ∃ g, d = eH g ∧ VH h m.ds.length g ∧ 1 ≤ g.length ∧ g.length ≤ 5) c (evx_call Nd.history hr 2 rfl (exs_cons (EvX.of (R := fun d => d = eM m) (ev_var 3 rfl rfl) (imm_M m) rfl) (exs_cons (EvX.of (R := fun d => d = eN h) (ev_var 4 rfl rfl) rfl rfl) (exs_cons (evx_bin (R := fun d => ∃ n : Nat, d = eN n ∧ 1 ≤ n ∧ n ≤ 5) (EvX.of (R := fun d => d = .int 1) ev_int rfl rfl) (evx_take (P0 := P) (n := 5) Nd.take hr 2 rfl ev_int (by decide) (by decide)) fun da db e1 ⟨r, e2, hr⟩ => by subst e1; subst e2; exact ⟨_, od_add, rfl, 1 + r, congrArg PyData.int (by omega), by omega, by omega⟩) exs_nil))) (fun ds ⟨y, ys, e1, e2, y2, ys2, e3, e4, y3, ys3, e5, ⟨n, e6, n1, n5⟩, e7⟩ => ⟨(m, h, n), by rw [e1, e2, e3, e4, e5, e6, e7], ⟨hm, by have := hh.1; show 1 ≤ h; omega, hh.2, by show n ≤ 10; omega⟩, fun d ⟨g, q1, q2, q3⟩ => ⟨g, q1, q2, by rw [q3]; exact n1, by rw [q3]; exact n5⟩⟩)) fun d ⟨g, e1, hg, hg1, hg5⟩ => ?_)
  subst e1
  refine runb_cons (runb_setX 6 (R := fun d => ∃ g2, d = eH g2 ∧ VH h m.ds.length g2 ∧ g2.length = g.length) c (evx_call Nd.other hr 2 rfl (exs_cons (EvX.of (R := fun d => d = eM m) (ev_var 3 rfl rfl) (imm_M m) rfl) (exs_cons (EvX.of (R := fun d => d = eN h) (ev_var 4 rfl rfl) rfl rfl) (exs_cons (EvX.of (R := fun d => d = eH g) (ev_var 5 rfl rfl) (imm_H g) rfl) exs_nil))) (fun ds ⟨y, ys, e1, e2, y2, ys2, e3, e4, y3, ys3, e5, e6, e7⟩ => ⟨(m, h, g), by rw [e1, e2, e3, e4, e5, e6, e7], ⟨hm, hg, hg1⟩, fun d h => h⟩)) fun d ⟨g2, e1, hg2, hgl⟩ => ?_)
  subst e1
  refine runb_cons (runb_pure (run_setR 7 (R := CmpOk m h g g2) c (ev_callR Nd.compare hr ((false, m), h, (false, g), (false, g2)) ⟨hm, hh, hg, hg2⟩ (eds_cons (ev_var 3 rfl rfl) (eds_cons (ev_var 4 rfl rfl) (eds_cons (ev_var 5 rfl rfl) (eds_one (ev_var 6 rfl rfl)))))) fun fd0 hfd => ⟨hfd.imm, ?_⟩))
  refine runb_cons (runb_ifD (k := false) (et_not (k := true) (et_val (ev_call Nd.compared hr (m, h, g, g2, fd0) ⟨hm, hh, hg, hg2, hfd⟩ (eds_cons (ev_var 3 rfl rfl) (eds_cons (ev_var 4 rfl rfl) (eds_cons (ev_var 5 rfl rfl) (eds_cons (ev_var 6 rfl rfl) (eds_one (ev_var 7 rfl rfl))))))))) (fun z => nomatch z) fun _ => runb_nil ?_)
  obtain ⟨r0, hr0⟩ := hfd.word
  have e70 : ∀ {S : List Sl} {p1 p2 p3 : Pos} {kk : Nat}, EvD (bX P w K mg base N_law "law" (defScope s_law) f cdv A outer s H E) (.Name "_law_found" p1) S fd0 → EvD (bX P w K mg base N_law "law" (defScope s_law) f cdv A outer s H E) (.Subscript (.Name "_law_found" p1) (.Constant (.int 0) kk p2) p3) S (.str (wordOf m h g g2)) := fun q => evr_ix0 (EvD.toR q ⟨r0, hr0⟩)
  have hwk := word_ok m h g g2
  refine runb_cons (runb_ifD (k := false) (EvT.is (et_cmp (od_neB c (shp_str 0 hwk) (shp_str 0 hwk) (eqv_str _ _)) (evr_ix0 ?kwd) (e70 (ev_var 7 rfl rfl))) (by rw [beq_self_eq_true]; rfl)) (fun z => nomatch z) fun _ => runb_nil ?_)
  case kwd =>
    refine EvR.impR (CmpOk m h g g2) ?_ fun d o => o.word
    have hl10 := hg2.1
    refine evr_kw Nd.cfn Nd.cmg Nd.ckp Nd.ckb hr (by decide) ⟨hm, hh, hg, hg2⟩ ?_ (ev_var 5 rfl rfl) (ev_var 4 rfl rfl) (EvN.toD (ev_ctN ca_lstT c.list boot_list (eds_one (ev_var 3 rfl rfl))))
    refine ev_lists c [("_law_letter", 12)] rfl [12] (fun x => [_, _, _, _, _, _, _, _, _, _, _, _, .dat (eL x)]) (it_H (ev_var 6 rfl rfl)) (by omega) (by decide) (fun b hb s H C cl fp => g_name 12 c.nd) fun b hb s H C cl fp => ?_
    exact ev_ctN (ca_lstT (xs := [eN b.1, eN b.2])) c.list boot_list (eds_one (ev_var 12 rfl rfl))
  refine runb_cons (runb_ifD (k := false) (EvT.is (et_w (ew_and (k := (wordOf m h g g2 == "alike")) (k' := false) (et_cmp (od_eqB c (shp_str 0 hwk) (shp_str 0 (by decide +kernel)) (eqv_str _ _)) (e70 (ev_var 7 rfl rfl)) ev_str) fun q => ew_and1 (et_val (ev_call Nd.apart hr (m, h, g, g2) ⟨hm, hh, hg, hg2, same_alike hg hg2 (word_alike q).1 (word_alike q).2, by show g.length + 2 ≤ 10; omega⟩ (eds_cons (ev_var 3 rfl rfl) (eds_cons (ev_var 4 rfl rfl) (eds_cons (ev_var 5 rfl rfl) (eds_cons (ev_var 6 rfl rfl) (eds_one ev_int))))))))) (Bool.and_false _)) (fun z => nomatch z) fun _ => runb_nil ?_)
  refine runb_cons (runb_setX 8 (R := fun d => ∃ g3, d = eH g3 ∧ VH h m.ds.length g3) c (evx_call Nd.history hr 2 rfl (exs_cons (EvX.of (R := fun d => d = eM m) (ev_var 3 rfl rfl) (imm_M m) rfl) (exs_cons (EvX.of (R := fun d => d = eN h) (ev_var 4 rfl rfl) rfl rfl) (exs_cons (evx_bin (R := fun d => ∃ n : Nat, d = eN n ∧ n ≤ 10) (EvX.of (R := fun d => d = eN g.length) (EvD.is (ev_cb ca_lenT c.len boot_len (eds_one (ev_var 5 rfl rfl))) (by rw [List.length_map]; rfl)) rfl rfl) (evx_take (P0 := P) (n := 2) Nd.take hr 2 rfl ev_int (by decide) (by decide)) fun da db e1 ⟨r, e2, hr⟩ => by subst e1; subst e2; exact ⟨_, od_add, rfl, g.length + r, congrArg PyData.int (by omega), by omega⟩) exs_nil))) (fun ds ⟨y, ys, e1, e2, y2, ys2, e3, e4, y3, ys3, e5, ⟨n, e6, n1⟩, e7⟩ => ⟨(m, h, n), by rw [e1, e2, e3, e4, e5, e6, e7], ⟨hm, by have := hh.1; show 1 ≤ h; omega, hh.2, by show n ≤ 10; omega⟩, fun d ⟨g, q1, q2, q3⟩ => ⟨g, q1, q2⟩⟩)) fun d ⟨g3, e1, hg3⟩ => ?_)
  subst e1
  refine runb_cons (runb_ifD (k := false) (et_not (k := true) (et_val (ev_callE Nd.compared hr (edr_cons (ev_var 3 rfl rfl) (edr_cons (ev_var 4 rfl rfl) (edr_cons (ev_var 5 rfl rfl) (edr_cons (ev_var 8 rfl rfl) (edr_last (ev_callR Nd.compare hr ((false, m), h, (false, g), (false, g3)) ⟨hm, hh, hg, hg3⟩ (eds_cons (ev_var 3 rfl rfl) (eds_cons (ev_var 4 rfl rfl) (eds_cons (ev_var 5 rfl rfl) (eds_one (ev_var 8 rfl rfl))))))))))) fun ds ⟨r1, e1, r2, e2, r3, e3, r4, e4, d, e5, hd⟩ => ⟨(m, h, g, g3, d), by rw [e1, e2, e3, e4, e5], ⟨hm, hh, hg, hg3, hd⟩, rfl⟩))) (fun z => nomatch z) fun _ => runb_nil ?_)
  have bW : Binds K ei ["self", "machine", "hands"] [] := Nd.wld.Fi.bindsN fun _ _ _ _ _ _ us hl => match us, hl with | [_, _, _], _ => rfl
  have bT : Binds K et ["self", "press"] [] := Nd.wld.Ft.bindsN fun _ _ _ _ _ _ us hl => match us, hl with | [_, _], _ => rfl
  have bB : Binds K eb ["self", "history"] [] := Nd.wld.Fb.bindsN fun _ _ _ _ _ _ us hl => match us, hl with | [_, _], _ => rfl
  have kB : KBn K eb ["self", "history"] 1 ["history"] (fun us ws => us ++ ws) (fun vs zs => vs ++ zs) := kb_of Nd.wld.Fb _ _ (fun r1 r2 => r1.append r2) fun kV doc pm an cdv ct us ws h1 h2 => match us, ws, h1, h2 with | [_], [_], _, _ => rfl
  obtain ⟨fq, fdq, qm, qk, qb, qf⟩ := Nd.compared.ex
  have hno : ∀ (s9 s10 s11 : Sl) (i : Nat) (ds : List PyData), (∀ ds, s9 ≠ Sl.lst ds) → (∀ ds, s10 ≠ Sl.lst ds) → (∀ ds, s11 ≠ Sl.lst ds) → [Sl.pre (PreL K l), .dat (eN k), .fix (.ref p), .dat (eM m), .dat (eN h), .dat (eH g), .dat (eH g2), .dat fd0, .dat (eH g3), s9, s10, s11, .any][i]? ≠ some (Sl.lst ds) := fun s9 s10 s11 i ds h9 h10 h11 => by
    match i with
    | 0 => exact nofun
    | 1 => exact nofun
    | 2 => exact nofun
    | 3 => exact nofun
    | 4 => exact nofun
    | 5 => exact nofun
    | 6 => exact nofun
    | 7 => exact nofun
    | 8 => exact nofun
    | 9 => exact fun q => h9 ds (Option.some.inj q)
    | 10 => exact fun q => h10 ds (Option.some.inj q)
    | 11 => exact fun q => h11 ds (Option.some.inj q)
    | 12 => exact nofun
    | n + 13 => exact nofun
  intro A2 B2 H2 σ2 D2 E2 K2
  refine ⟨_, pss_cons (ps_set (i := 9) c.nd rfl (Or.inl rfl) (pe_make Nd.wld.mkr Nd.mkw (hr.mono (by decide)) rfl Nd.wld.mg bW .nil pass0 (pa_cons we (pa_cons we pa_nil))) rfl (Or.inl rfl)) (pss_cons (ps_for PassesOwn.never c.calm (pi_tup (pe_var (i := 5) rfl (Or.inl rfl) (by decide) (by decide))) wg wss (by intro _; rfl)) (pss_one (ps_if Ow.wt wss wss))), ?_⟩
  show WE _ _ _ _ _
  refine EvD.useD (eM m) E2.env ?_ fun v1 H3 e3 r3 => ?_
  · exact ev_var 3 rfl rfl
  show WE _ _ _ _ _
  refine EvD.useD (eN h) (E2.env.mono e3) ?_ fun v2 H4 e4 r4 => ?_
  · exact ev_var 4 rfl rfl
  intro x dx nx nd ne
  have e34 := e3.trans e4
  have e45 : Ex H4 (upd (upd H4 dx (.own x)) x (.ins CW dx [])) := (Ex.new nd).trans (Ex.new (by rw [upd_ne ne.symm]; exact nx))
  obtain ⟨g0, s0, hb0, hp0⟩ := E2.bx
  have B2n : ∀ a, H4 a = none → B2 a = none := fun a ha => E2.env.ex.back (e34.back ha)
  refine ⟨x, v1, m, h, dx, by rw [r4.toInt]; rfl, upd_same, (r3.ex e4).ex e45, hm, hh, fun H' kp mx nkp hw => ⟨rfl, ?_⟩⟩
  have nkp4 : H4 kp = none := e45.back nkp
  have keep : ∀ a o, H4 a = some o → H' a = some o := fun a o ha => mx a o (fun z => by rw [z, nx] at ha; cases ha) (e45 _ _ ha)
  have hpx : p ≠ x := fun z => by
    have := e34 _ _ hp0
    rw [z, nx] at this
    cases this
  have hpk : p ≠ kp := fun z => by
    have := e34 _ _ hp0
    rw [z, nkp4] at this
    cases this
  have EN : EnvOk A2 B2 H' (σ2.set 9 (some (V.ref x))) [.pre (PreL K l), .dat (eN k), .fix (.ref p), .dat (eM m), .dat (eN h), .dat (eH g), .dat (eH g2), .dat fd0, .dat (eH g3), .fix (.ref x), .any, .any, .any] := (E2.env.mono (e34.trans keep)).put (i := 9) (o := some (.ref x)) (s := .fix (.ref x)) rfl fun _ z => nomatch z
  obtain ⟨v5, h5, d5⟩ := EN.val (i := 5) rfl
  obtain ⟨q0, xs, rfl, hq, hxs⟩ := d5.toTup
  refine ⟨_, h5, q0, rfl, ⟨xs, .inl (.inl hq)⟩, ?_⟩
  have hlen : xs.length = g.length := by rw [hxs.length, List.length_map]
  refine ⟨fun i m' σ' H'' => m' = g.length - i ∧ i ≤ g.length ∧ EnvOk A2 B2 H'' σ' [.pre (PreL K l), .dat (eN k), .fix (.ref p), .dat (eM m), .dat (eN h), .dat (eH g), .dat (eH g2), .dat fd0, .dat (eH g3), .fix (.ref x), .any, .any, .any] ∧ H'' q0 = some (.tup xs) ∧ Dvs H'' xs (g.map eL) ∧ H'' p = some (.lst [.int g0, .int s0]) ∧ WdOk CW C H'' x kp m h (g.take i), ⟨_, rfl, Nat.zero_le _, EN, hq, hxs, keep _ _ (e34 _ _ hp0), hw⟩, ?_⟩
  rintro i m' σ3 H5 ⟨rfl, hle, E5, hq5, hxs5, hp5, hw5⟩
  by_cases hlt : i < g.length
  · refine .inr ⟨⟨xs, xs[i], .inl (.inl hq5), List.getElem?_eq_getElem (by omega)⟩, fun σ' H' => EnvOk A2 B2 H' σ' [.pre (PreL K l), .dat (eN k), .fix (.ref p), .dat (eM m), .dat (eN h), .dat (eH g), .dat (eH g2), .dat fd0, .dat (eH g3), .fix (.ref x), .any, .any, .any] ∧ H' q0 = some (.tup xs) ∧ Dvs H' xs (g.map eL) ∧ H' p = some (.lst [.int g0, .int s0]) ∧ WdOk CW C H' x kp m h (g.take (i + 1)), fun σ' H' hI => ⟨g.length - (i + 1), by omega, rfl, hlt, hI⟩, fun y H6 hy => ?_⟩
    obtain ⟨rfl, hx⟩ := hy
    obtain ⟨d, hd, hv⟩ := hxs5.get (hx xs (.inl (.inl hq5)))
    rw [List.getElem?_map, List.getElem?_eq_getElem hlt] at hd
    cases (show eL g[i] = d from Option.some.inj hd)
    have hlm : g[i] ∈ g := List.getElem_mem hlt
    have hl := hg.2 _ hlm
    refine (GTo.ofTup (ds := [eN g[i].1, eN g[i].2]) (g_tup2 10 11 c (s := .dat (eN g[i].1)) (t := .dat (eN g[i].2)))) A2 B2 H6 σ3 y E5 ⟨imm_L _, hv⟩ _ fun σ4 E4 _ => ?_
    refine ⟨_, pss_one (ps_expr (pe_meth (pe_var (i := 9) rfl (Or.inl rfl) (by decide) (by decide)) Nd.wld.cls Nd.wld.mt Nd.tkw (hr.mono (by decide)) bT .nil pass0 (pa_cons we pa_nil)) rfl), ?_⟩
    obtain ⟨o9, h9, hv9⟩ := E4.at (i := 9) rfl
    cases (show o9 = some (.ref x) from hv9)
    have hw5' := hw5
    obtain ⟨hne, ⟨dw, vm, vg, ha, hvm, hvg⟩, gk, ⟨dk, km, kg, hka, hkm, hkg⟩, hvk, hlk⟩ := hw5
    refine ⟨_, h9, x, dw, _, rfl, ha, (lk _ _ (by decide +kernel) _ _).trans ((lk _ _ (by decide +kernel) _ _).trans ((lk _ _ (by decide +kernel) _ _).trans ((lk _ _ (by decide +kernel) _ _).trans rfl))), ?_⟩
    show WE _ _ _ _ _
    refine EvD.useD (eP g[i]) E4 ?_ fun v6 H7 e6 r6 => ?_
    · exact ev_tup (eds_cons ev_str (eds_cons (ev_var 10 rfl rfl) (eds_one (ev_var 11 rfl rfl))))
    refine ⟨x, kp, v6, m, h, g.take i, g[i].1, g[i].2, rfl, ⟨hne, ⟨dw, vm, vg, e6 _ _ ha, hvm.ex e6, hvg.ex e6⟩, gk, ⟨dk, km, kg, e6 _ _ hka, hkm.ex e6, hkg.ex e6⟩, hvk, hlk⟩, r6, ⟨hm, hh, ⟨by rw [List.length_take]; omega, fun l hl => hg.2 l (List.mem_of_mem_take hl)⟩, hl.1, hl.2, by rw [List.length_take]; omega⟩, fun v7 H8 mx2 hw8 => ?_⟩
    have tx : Tx H7 H8 := fun b ys hb => mx2 b _ (fun z => by
      have := e6 _ _ ha
      rw [z, this] at hb
      cases hb) (fun z => by
      have := e6 _ _ hka
      rw [z, this] at hb
      cases hb) hb
    have nx2 : B2 x = none := B2n x nx
    have nk2 : B2 kp = none := B2n kp nkp4
    refine ⟨((E4.mono e6).mut2 (hno _ _ _ · · (fun _ z => nomatch z) (fun _ z => nomatch z) (fun _ z => nomatch z)) (fun b o hb => mx2 b o (fun z => by rw [z, nx2] at hb; cases hb) (fun z => by rw [z, nk2] at hb; cases hb) (e6 _ _ (E4.ex _ _ hb))) tx).forgets [10, 11], tx _ _ (e6 _ _ hq5), (hxs5.ex e6).tx tx (imms_L g), mx2 p _ hpx hpk (e6 _ _ hp5), ?_⟩
    rw [List.take_succ_eq_append_getElem hlt]
    exact hw8
  · have e : i = g.length := by omega
    subst e
    rw [List.take_length] at hw5
    refine .inl ⟨⟨xs, .inl (.inl hq5), Nat.le_of_eq hlen⟩, ?_⟩
    obtain ⟨o9, h9, hv9⟩ := E5.at (i := 9) rfl
    cases (show o9 = some (.ref x) from hv9)
    have lkb : ∀ (r1 r2 r3 r4 : V), List.lookup ("beside" : Str) (fs4 r1 r2 r3 r4) = none := fun r1 r2 r3 r4 => (lk _ _ (by decide +kernel) _ _).trans ((lk _ _ (by decide +kernel) _ _).trans ((lk _ _ (by decide +kernel) _ _).trans ((lk _ _ (by decide +kernel) _ _).trans rfl)))
    obtain ⟨hne, ⟨dw, vm, vg, ha, hvm, hvg⟩, gk, ⟨dk, km, kg, hka, hkm, hkg⟩, hvk, hlk⟩ := hw5
    have wex : ∀ H6, Ex H5 H6 → WdOk CW C H6 x kp m h g := fun H6 e => ⟨hne, ⟨dw, vm, vg, e _ _ ha, hvm.ex e, hvg.ex e⟩, gk, ⟨dk, km, kg, e _ _ hka, hkm.ex e, hkg.ex e⟩, hvk, hlk⟩
    show WT _ _ _ _ _
    refine ⟨_, (pw_or Ow.wt (pw_or1 Ow.wt)).pt, ?_⟩
    show WT _ _ _ _ _
    refine ⟨_, pt_not Ow.wt, ?_⟩
    show WT _ _ _ _ _
    refine ⟨_, pt_val we (by intro _; rfl), ?_⟩
    show WE _ _ _ _ _
    refine ⟨_, pe_call qf (hr.mono (by decide)) rfl qm qk qb .nil pass0 (pa_cons we (pa_cons we (pa_cons we (pa_cons we (pa_cons we pa_nil))))), ?_⟩
    show WE _ _ _ _ _
    refine EvD.useD (eM m) E5 ?_ fun u1 H6 x6 t1 => ?_
    · exact ev_var 3 rfl rfl
    show WE _ _ _ _ _
    refine EvD.useD (eN h) (E5.mono x6) ?_ fun u2 H7 x7 t2 => ?_
    · exact ev_var 4 rfl rfl
    show WE _ _ _ _ _
    refine EvD.useD (eH g) (E5.mono (x6.trans x7)) ?_ fun u3 H8 x8 t3 => ?_
    · exact ev_var 5 rfl rfl
    show WE _ _ _ _ _
    refine EvD.useD (eH g2) (E5.mono ((x6.trans x7).trans x8)) ?_ fun u4 H9 x9 t4 => ?_
    · exact ev_var 6 rfl rfl
    have x59 := ((x6.trans x7).trans x8).trans x9
    show WE _ _ _ _ _
    refine ⟨_, pe_meth (pe_var (i := 9) rfl (Or.inl rfl) (by decide) (by decide)) Nd.wld.cls Nd.wld.mb Nd.bsw (hr.mono (by decide)) bB .nil pass0 (pa_cons we pa_nil), ?_⟩
    refine ⟨_, h9, x, dw, _, rfl, x59 _ _ ha, lkb _ _ _ _, ?_⟩
    show WE _ _ _ _ _
    refine EvD.useD (eH g2) (E5.mono x59) ?_ fun u5 H10 x10 t5 => ?_
    · exact ev_var 6 rfl rfl
    refine ⟨x, kp, u5, m, h, g, g2, rfl, wex _ (x59.trans x10), t5, ⟨hm, hh, hg, hg2⟩, fun d6' u6 H11 hd x11 t6 => ?_⟩
    have xa := x10.trans x11
    refine ⟨(m, h, g, g2, d6'), .cons (t1.ex (x7.trans (x8.trans (x9.trans xa)))) (.cons (t2.ex (x8.trans (x9.trans xa))) (.cons (t3.ex (x9.trans xa)) (.cons (t4.ex xa) (.cons t6 .nil)))), ⟨hm, hh, hg, hg2, hd⟩, fun u7 H12 x12 t7 => ⟨true, t7.toBl, ?_⟩⟩
    have x512 := x59.trans (xa.trans x12)
    show WT _ _ _ _ _
    refine ⟨_, pt_cmpR opW we we (by first | exact nomark _ (by decide) (by decide) | rfl), ?_⟩
    show WE _ _ _ _ _
    refine ⟨_, pe_methK0 (pe_var (i := 9) rfl (Or.inl rfl) (by decide) (by decide)) Nd.wld.cls Nd.wld.mb Nd.bsw (hr.mono (by decide)) kB pass0 (pk_cons we pk_nil), ?_⟩
    refine ⟨_, h9, x, dw, _, rfl, x512 _ _ ha, lkb _ _ _ _, ?_⟩
    show WE _ _ _ _ _
    refine EvD.useD (eH g) (E5.mono x512) ?_ fun u8 H13 x13 t8 => ?_
    · exact ev_var 5 rfl rfl
    refine ⟨rfl, x, kp, u8, m, h, g, g, rfl, wex _ (x512.trans x13), t8, ⟨hm, hh, hg, hg⟩, fun d9 u9 H14 hd9 x14 t9 => ?_⟩
    have hd9 := hd9.self
    subst hd9
    have x514 := x512.trans (x13.trans x14)
    show WE _ _ _ _ _
    refine EvD.useD (.tuple [.str "alike", .tuple []]) (E5.mono x514) ?_ fun u10 H15 x15 t10 => ?_
    · exact ev_tup (eds_cons ev_str (eds_one (ev_tup eds_nil)))
    have shq : Shp 2 (.tuple [.str "alike", .tuple []]) := shp_tup fun d hd => by
      rcases List.mem_cons.mp hd with rfl | hd
      · exact shp_str 1 (by decide +kernel)
      · cases List.mem_singleton.mp hd
        exact shp_tup fun d hd => by cases hd
    have eqq : PyData.eqv (.tuple [.str "alike", .tuple []]) (.tuple [.str "alike", .tuple []]) = true := by
      rw [eqv_tup, eqvAll_cons, eqvAll_cons, eqvAll_nil, eqv_str, eqv_tup, eqvAll_nil]
      decide +kernel
    obtain ⟨rr, ro, rh⟩ := od_neB c shq shq eqq
    refine ⟨rr, ro, rh H15 u9 u10 _ (t9.ex x15) t10 fun u11 H16 x16 t11 => ⟨false, t11.toBl, ?_⟩⟩
    have x516 := x514.trans (x15.trans x16)
    show WSs _ _ _ _ _
    exact ⟨_, pss_nil, K2.nx _ _ _ ⟨[1, 2, 3, 4, 5, 6, 7, 8, 9], rfl⟩ ⟨E5.mono x516, E2.nb, ⟨g0, s0, hb0, x516 _ _ hp5⟩, fun j ds hj => absurd hj (hno _ _ _ j ds (fun _ z => nomatch z) (fun _ z => nomatch z) fun _ z => nomatch z)⟩⟩
end

end Ow
end

section
set_option linter.all false
set_option maxRecDepth 100000
set_option maxHeartbeats 0
/-! The head joined; the facts; the statement. -/
namespace OwH
open PySem PySem.Spec PyProof.Rows L2
open HandSHeadRun PySem.W
theorem join3 {α β γ δ : Type} {o : Option α} {a : α → β} {b : α → γ} {c : α → δ} {x : β} {y : γ} {z : δ} (h1 : o.map a = some x) (h2 : o.map b = some y) (h3 : o.map c = some z) : o.map (fun s => (a s, b s, c s)) = some (x, y, z) := by
  cases o with
  | none => cases h1
  | some s =>
    have e1 : a s = x := Option.some.inj h1
    have e2 : b s = y := Option.some.inj h2
    have e3 : c s = z := Option.some.inj h3
    show some (a s, b s, c s) = _
    rw [e1, e2, e3]
theorem run (w : World) : RunEq R (PySem.W.view R.prog [111]) hk ob 8000 names w :=
  PySem.W.byRow2 "special-get-raises" (P := fun w => RunEq R (PySem.W.view R.prog [111]) hk ob 8000 names w) (fun w os => join3 (pA_wf w os) (pB_wf w os) (pC_wf w os)) (fun w os => join3 (pA_wt w os) (pB_wt w os) (pC_wt w os)) w
end OwH
namespace Ow
open PySem L2 OwL Om
theorem dat {K : PySem.W.Frag} {h : Heap} {mg : Str → Option Value} (X : K.In h) (G : h.Ns mainGlobals mg) (cd : He.SaysD OwH.fa OwH.fn K) (i j : Nat) {x : Str} {st : Stmt} (hi : OwH.fa[i]? = some (.glo x)) (hj : OwH.fn[j]? = some (OwH.dT x st)) : DefAt K mg x st := by
  obtain ⟨fd, F⟩ := cd.def_ j hj
  exact ⟨He.ga K x, fd, He.glo_ok X G (cd.fact i hi), F⟩
theorem facts {P : Program} {w : World} {K : PySem.W.Frag} {h : Heap} {mg : Str → Option Value} {f : Addr} (X : K.In h) (G : h.Ns mainGlobals mg) (hfa : mg ("law" : Str) = some (.ref f)) (cs : OwH.Says w K) :
    ∃ fd : FuncData, (∀ (s : Shared) (v : Value), BindsTo s fd ⟨[v], []⟩ [("_law_script", v)]) ∧ ∀ base : Heap, K.In base → base.Ns mainGlobals mg → FnOk P w K mg base CX0 17 f fd ["_law_script"] (S_law K) := by
  have ct : He.SaysT OwH.fa OwH.fn [OwH.tab] w K := congrArg (fun z : OwH.Al => z.1) cs
  have vb : He.valsB K (He.ga K "PARTS") [("deed", .int 3)] = true := congrArg (fun z : OwH.Al => z.2) cs
  have cd : He.SaysD OwH.fa OwH.fn K := ct.d
  have B : Blt mg := ⟨(He.free_ok X G (cd.fact 0 (f := .free "len") rfl)), (He.free_ok X G (cd.fact 1 (f := .free "tuple") rfl)), (He.free_ok X G (cd.fact 2 (f := .free "list") rfl)), (He.free_ok X G (cd.fact 3 (f := .free "range") rfl)), (He.free_ok X G (cd.fact 4 (f := .free "enumerate") rfl)), (He.free_ok X G (cd.fact 5 (f := .free "zip") rfl)), (He.free_ok X G (cd.fact 6 (f := .free "max") rfl)), (He.free_ok X G (cd.fact 7 (f := .free "min") rfl)), (He.free_ok X G (cd.fact 8 (f := .free "sum") rfl)), (He.free_ok X G (cd.fact 9 (f := .free "all") rfl)), (He.free_ok X G (cd.fact 10 (f := .free "any") rfl)), (He.free_ok X G (cd.fact 11 (f := .free "isinstance") rfl)), (He.free_ok X G (cd.fact 12 (f := .free "int") rfl)), (He.free_ok X G (cd.fact 13 (f := .free "bool") rfl)), (He.free_ok X G (cd.fact 14 (f := .free "str") rfl)), (He.free_ok X G (cd.fact 15 (f := .free "abs") rfl))⟩
  have Gs : Gls mg := ⟨(He.int_ok X G (cd.fact 16 (f := .int "MOST_HANDS" 4) rfl)), (He.int_ok X G (cd.fact 17 (f := .int "MOST_DEEDS" 6) rfl)), (He.int_ok X G (cd.fact 18 (f := .int "MOST_BOARDS" 8) rfl)), (He.str_ok X G (cd.fact 19 (f := .str "DEED" "deed") rfl)), (He.str_ok X G (cd.fact 20 (f := .str "BACK_forms" "back") rfl)), (He.str_ok X G (cd.fact 21 (f := .str "BACK_parting" "back") rfl)), (He.str_ok X G (cd.fact 22 (f := .str "EXCHANGE" "exchange") rfl)), (He.str_ok X G (cd.fact 23 (f := .str "PUT" "put") rfl)), (He.str_ok X G (cd.fact 24 (f := .str "ALIKE" "alike") rfl)), (He.str_ok X G (cd.fact 25 (f := .str "APART" "apart") rfl)), (He.str_ok X G (cd.fact 26 (f := .str "NUMBERS" "numbers") rfl))⟩
  have Pt : Prt K w mg := by
    obtain ⟨es, n, kd⟩ := ct.tab 0 (t := OwH.tab) rfl
    obtain ⟨u, h1, t, h2⟩ := He.valsB_ok vb (q := ("deed", .int 3)) (List.mem_singleton.mpr rfl)
    exact ⟨He.ga K "PARTS", es, n, t, (He.glo_ok X G (cd.fact 44 (f := .glo "PARTS") rfl)), kd, by rw [← h2]; exact h1⟩
  obtain ⟨fd, F⟩ : ∃ fd, FunD K "law" "law" (defArgs s_law) (defBody s_law) (defScope s_law) [] [] (He.ga K "law") fd := cd.def_ 78 (d := OwH.dT "law" s_law) rfl
  have e := hfa.symm.trans (He.glo_ok X G (cd.fact 117 (f := .glo "law") rfl))
  cases e
  obtain ⟨fc, Fc⟩ : ∃ fd, FunD K "compare" "compare" (defArgs s_compare) (defBody s_compare) (defScope s_compare) [] [] (He.ga K "compare") fd := cd.def_ 58 (d := OwH.dT "compare" s_compare) rfl
  obtain ⟨di, F_di⟩ : ∃ fd, FnM K "__init__" "Keeper.__init__" s_ki (He.ma K (He.ga K "Keeper") "__init__") fd := cd.def_ 0 (d := OwH.dM "Keeper" "__init__" "Keeper.__init__" s_ki) rfl
  obtain ⟨dt, F_dt⟩ : ∃ fd, FnM K "take" "Keeper.take" s_kt (He.ma K (He.ga K "Keeper") "take") fd := cd.def_ 1 (d := OwH.dM "Keeper" "take" "Keeper.take" s_kt) rfl
  obtain ⟨ei, F_ei⟩ : ∃ fd, FnM K "__init__" "World.__init__" s_wi (He.ma K (He.ga K "World") "__init__") fd := cd.def_ 2 (d := OwH.dM "World" "__init__" "World.__init__" s_wi) rfl
  obtain ⟨et, F_et⟩ : ∃ fd, FnM K "take" "World.take" s_wt (He.ma K (He.ga K "World") "take") fd := cd.def_ 3 (d := OwH.dM "World" "take" "World.take" s_wt) rfl
  obtain ⟨el, F_el⟩ : ∃ fd, FnM K "tells" "World.tells" s_wl (He.ma K (He.ga K "World") "tells") fd := cd.def_ 4 (d := OwH.dM "World" "tells" "World.tells" s_wl) rfl
  obtain ⟨eb, F_eb⟩ : ∃ fd, FnM K "beside" "World.beside" s_wb (He.ma K (He.ga K "World") "beside") fd := cd.def_ 5 (d := OwH.dM "World" "beside" "World.beside" s_wb) rfl
  have KP : Kpr K mg (He.ga K "Keeper") (He.ma K (He.ga K "Keeper") "__init__") (He.ma K (He.ga K "Keeper") "take") di dt := ⟨(He.glo_ok X G (cd.fact 27 (f := .glo "Keeper") rfl)), (He.cls_ok (cd.fact 28 (f := .cls "Keeper") rfl)), (He.noat_ok (cd.fact 30 (f := .noat "Keeper" "machine") rfl)), (He.noat_ok (cd.fact 31 (f := .noat "Keeper" "history") rfl)), (He.noat_ok (cd.fact 32 (f := .noat "Keeper" "hands") rfl)), (He.mkr_ok (cd.fact 29 (f := .mkr "Keeper") rfl)), F_di, (He.meth_ok (cd.fact 40 (f := .meth "Keeper" "take") rfl)), F_dt⟩
  have WP : Wld K mg (He.ga K "World") (He.ma K (He.ga K "World") "__init__") (He.ma K (He.ga K "World") "take") (He.ma K (He.ga K "World") "tells") (He.ma K (He.ga K "World") "beside") ei et el eb := ⟨(He.glo_ok X G (cd.fact 33 (f := .glo "World") rfl)), (He.cls_ok (cd.fact 34 (f := .cls "World") rfl)), (He.noat_ok (cd.fact 36 (f := .noat "World" "machine") rfl)), (He.noat_ok (cd.fact 37 (f := .noat "World" "history") rfl)), (He.noat_ok (cd.fact 38 (f := .noat "World" "hands") rfl)), (He.noat_ok (cd.fact 39 (f := .noat "World" "keeper") rfl)), (He.mkr_ok (cd.fact 35 (f := .mkr "World") rfl)), F_ei, (He.meth_ok (cd.fact 41 (f := .meth "World" "take") rfl)), F_et, (He.meth_ok (cd.fact 42 (f := .meth "World" "tells") rfl)), F_el, (He.meth_ok (cd.fact 43 (f := .meth "World" "beside") rfl)), F_eb⟩
  refine ⟨fd, fun s v => FunD.bindsA (ps := ["_law_script"]) F (fun _ _ _ _ _ _ us hl => match us, hl with | [_], _ => rfl) s [v] rfl, fun base _ _ => ?_⟩
  have h_is_integer := c_is_integer (P := P) (w := w) (K := K) (mg := mg) (base := base) B (dat X G cd 45 6 (x := "is_integer") (st := s_is_integer) rfl rfl)
  have h_is_number := c_is_number (P := P) (w := w) (K := K) (mg := mg) (base := base) B Gs (dat X G cd 46 7 (x := "is_number") (st := s_is_number) rfl rfl) h_is_integer
  have h_is_below := c_is_below (P := P) (w := w) (K := K) (mg := mg) (base := base) B Gs (dat X G cd 47 8 (x := "is_below") (st := s_is_below) rfl rfl) h_is_number
  have h_is_positive := c_is_positive (P := P) (w := w) (K := K) (mg := mg) (base := base) B Gs (dat X G cd 48 9 (x := "is_positive") (st := s_is_positive) rfl rfl) h_is_integer
  have h_is_sequence := c_is_sequence (P := P) (w := w) (K := K) (mg := mg) (base := base) B Gs (dat X G cd 49 10 (x := "is_sequence") (st := s_is_sequence) rfl rfl)
  have h_is_string := c_is_string (P := P) (w := w) (K := K) (mg := mg) (base := base) B Gs (dat X G cd 50 11 (x := "is_string") (st := s_is_string) rfl rfl)
  have h_are_below := c_are_below (P := P) (w := w) (K := K) (mg := mg) (base := base) B Gs (dat X G cd 51 12 (x := "are_below") (st := s_are_below) rfl rfl) h_is_sequence h_is_below
  have h_is_hands := c_is_hands (P := P) (w := w) (K := K) (mg := mg) (base := base) B Gs (dat X G cd 52 13 (x := "is_hands") (st := s_is_hands) rfl rfl) h_is_positive
  have h_is_map := c_is_map (P := P) (w := w) (K := K) (mg := mg) (base := base) B Gs (dat X G cd 55 16 (x := "is_map") (st := s_is_map) rfl rfl) h_are_below
  have h_are_deeds := c_are_deeds (P := P) (w := w) (K := K) (mg := mg) (base := base) B Gs (dat X G cd 56 17 (x := "are_deeds") (st := s_are_deeds) rfl rfl) h_is_sequence h_is_map
  have h_check_machine := c_check_machine (P := P) (w := w) (K := K) (mg := mg) (base := base) B Gs (dat X G cd 57 18 (x := "check_machine") (st := s_check_machine) rfl rfl) h_is_sequence h_are_deeds h_is_below
  have h_need_hands := c_need_hands (P := P) (w := w) (K := K) (mg := mg) (base := base) B Gs (dat X G cd 58 19 (x := "need_hands") (st := s_need_hands) rfl rfl) h_is_hands
  have h_is_letter := c_is_letter (P := P) (w := w) (K := K) (mg := mg) (base := base) B Gs (dat X G cd 59 20 (x := "is_letter") (st := s_is_letter) rfl rfl) h_is_sequence h_is_below
  have h_check_row := c_check_row (P := P) (w := w) (K := K) (mg := mg) (base := base) B Gs (dat X G cd 60 21 (x := "check_row") (st := s_check_row) rfl rfl) h_need_hands h_is_sequence h_is_letter
  have h_check_history := c_check_history (P := P) (w := w) (K := K) (mg := mg) (base := base) B Gs (dat X G cd 61 22 (x := "check_history") (st := s_check_history) rfl rfl) h_check_machine h_check_row
  have h_counts_of := c_counts_of (P := P) (w := w) (K := K) (mg := mg) (base := base) B Gs (dat X G cd 62 23 (x := "counts_of") (st := s_counts_of) rfl rfl) h_check_row
  have h_boards := c_boards (P := P) (w := w) (K := K) (mg := mg) (base := base) B Gs (dat X G cd 63 24 (x := "boards") (st := s_boards) rfl rfl) h_check_machine h_check_history
  have h_board_of := c_board_of (P := P) (w := w) (K := K) (mg := mg) (base := base) B Gs (dat X G cd 64 25 (x := "board_of") (st := s_board_of) rfl rfl) h_boards
  have h_is_press := c_is_press (P := P) (w := w) (K := K) (mg := mg) (base := base) B Gs (dat X G cd 53 14 (x := "is_press") (st := s_is_press) rfl rfl) h_is_sequence h_is_string h_is_below Pt
  have h_check_press := c_check_press (P := P) (w := w) (K := K) (mg := mg) (base := base) B Gs (dat X G cd 54 15 (x := "check_press") (st := s_check_press) rfl rfl) h_is_press
  have h_press_here := c_press_here (P := P) (w := w) (K := K) (mg := mg) (base := base) B Gs (dat X G cd 65 26 (x := "press_here") (st := s_press_here) rfl rfl) h_check_press
  have h_need_press := c_need_press (P := P) (w := w) (K := K) (mg := mg) (base := base) B Gs (dat X G cd 66 27 (x := "need_press") (st := s_need_press) rfl rfl) h_press_here
  have h_behind := c_behind (P := P) (w := w) (K := K) (mg := mg) (base := base) B Gs (dat X G cd 67 28 (x := "behind") (st := s_behind) rfl rfl)
  have h_pressed := c_pressed (P := P) (w := w) (K := K) (mg := mg) (base := base) B Gs (dat X G cd 68 29 (x := "pressed") (st := s_pressed) rfl rfl) h_check_machine h_check_history h_need_press h_behind
  have h_are_counts := c_are_counts (P := P) (w := w) (K := K) (mg := mg) (base := base) B Gs (dat X G cd 69 30 (x := "are_counts") (st := s_are_counts) rfl rfl) h_is_sequence h_is_number
  have h_need_counts := c_need_counts (P := P) (w := w) (K := K) (mg := mg) (base := base) B Gs (dat X G cd 70 31 (x := "need_counts") (st := s_need_counts) rfl rfl) h_are_counts
  have h_vectors := c_vectors (P := P) (w := w) (K := K) (mg := mg) (base := base) B Gs (dat X G cd 71 32 (x := "vectors") (st := s_vectors) rfl rfl) h_need_counts
  have h_is_vector := c_is_vector (P := P) (w := w) (K := K) (mg := mg) (base := base) B Gs (dat X G cd 72 33 (x := "is_vector") (st := s_is_vector) rfl rfl) h_is_sequence h_is_below
  have h_place_of := c_place_of (P := P) (w := w) (K := K) (mg := mg) (base := base) B Gs (dat X G cd 73 34 (x := "place_of") (st := s_place_of) rfl rfl) h_need_counts h_is_vector
  have h_check_part := c_check_part (P := P) (w := w) (K := K) (mg := mg) (base := base) B Gs (dat X G cd 74 35 (x := "check_part") (st := s_check_part) rfl rfl) h_is_sequence h_are_counts h_is_below
  have h_check_table := c_check_table (P := P) (w := w) (K := K) (mg := mg) (base := base) B Gs (dat X G cd 75 36 (x := "check_table") (st := s_check_table) rfl rfl) h_check_machine h_check_part
  have h_need_hand := c_need_hand (P := P) (w := w) (K := K) (mg := mg) (base := base) B Gs (dat X G cd 76 37 (x := "need_hand") (st := s_need_hand) rfl rfl) h_is_below
  have h_part_of := c_part_of (P := P) (w := w) (K := K) (mg := mg) (base := base) B Gs (dat X G cd 77 38 (x := "part_of") (st := s_part_of) rfl rfl) h_check_part h_place_of h_vectors
  have h_first_table := c_first_table (P := P) (w := w) (K := K) (mg := mg) (base := base) B Gs (dat X G cd 78 39 (x := "first_table") (st := s_first_table) rfl rfl) h_check_machine h_check_history
  have h_grown := c_grown (P := P) (w := w) (K := K) (mg := mg) (base := base) B Gs (dat X G cd 79 40 (x := "grown") (st := s_grown) rfl rfl) h_vectors h_place_of
  have h_with_back := c_with_back (P := P) (w := w) (K := K) (mg := mg) (base := base) B Gs (dat X G cd 80 41 (x := "with_back") (st := s_with_back) rfl rfl) h_check_part h_need_hand h_part_of
  have h_table_of := c_table_of (P := P) (w := w) (K := K) (mg := mg) (base := base) B Gs (dat X G cd 81 42 (x := "table_of") (st := s_table_of) rfl rfl) h_check_machine h_first_table h_check_history h_grown
  have h_lessened := c_lessened (P := P) (w := w) (K := K) (mg := mg) (base := base) B Gs (dat X G cd 82 43 (x := "lessened") (st := s_lessened) rfl rfl)
  have h_does_all := c_does_all (P := P) (w := w) (K := K) (mg := mg) (base := base) B Gs (dat X G cd 83 44 (x := "does_all") (st := s_does_all) rfl rfl)
  have h_deeds_doing := c_deeds_doing (P := P) (w := w) (K := K) (mg := mg) (base := base) B Gs (dat X G cd 84 45 (x := "deeds_doing") (st := s_deeds_doing) rfl rfl) h_does_all
  have h_last_pairs := c_last_pairs (P := P) (w := w) (K := K) (mg := mg) (base := base) B Gs (dat X G cd 85 46 (x := "last_pairs") (st := s_last_pairs) rfl rfl) h_vectors h_lessened h_place_of
  have h_lasts := c_lasts (P := P) (w := w) (K := K) (mg := mg) (base := base) B Gs (dat X G cd 86 47 (x := "lasts") (st := s_lasts) rfl rfl) h_check_machine h_check_table h_deeds_doing h_last_pairs
  have h_normal := c_normal (P := P) (w := w) (K := K) (mg := mg) (base := base) B Gs (dat X G cd 87 48 (x := "normal") (st := s_normal) rfl rfl) h_check_machine h_check_table h_lasts h_with_back
  have h_normal_of := c_normal_of (P := P) (w := w) (K := K) (mg := mg) (base := base) B Gs (dat X G cd 88 49 (x := "normal_of") (st := s_normal_of) rfl rfl) h_check_machine h_normal h_table_of
  have h_renewed := c_renewed (P := P) (w := w) (K := K) (mg := mg) (base := base) B Gs (dat X G cd 89 50 (x := "renewed") (st := s_renewed) rfl rfl) h_check_machine h_normal_of h_pressed
  have h_two_tables := c_two_tables (P := P) (w := w) (K := K) (mg := mg) (base := base) B Gs (dat X G cd 90 51 (x := "two_tables") (st := s_two_tables) rfl rfl) h_check_machine h_table_of
  have h_unlike_entries := c_unlike_entries (P := P) (w := w) (K := K) (mg := mg) (base := base) B Gs (dat X G cd 91 52 (x := "unlike_entries") (st := s_unlike_entries) rfl rfl) h_vectors
  have h_nearest := c_nearest (P := P) (w := w) (K := K) (mg := mg) (base := base) B Gs (dat X G cd 92 53 (x := "nearest") (st := s_nearest) rfl rfl) h_two_tables h_unlike_entries
  have h_backs_to := c_backs_to (P := P) (w := w) (K := K) (mg := mg) (base := base) B Gs (dat X G cd 93 54 (x := "backs_to") (st := s_backs_to) rfl rfl)
  have h_parting := c_parting (P := P) (w := w) (K := K) (mg := mg) (base := base) B Gs (dat X G cd 94 55 (x := "parting") (st := s_parting) rfl rfl) h_two_tables h_nearest h_backs_to
  have h_two_alike := c_two_alike (P := P) (w := w) (K := K) (mg := mg) (base := base) B Gs (dat X G cd 95 56 (x := "two_alike") (st := s_two_alike) rfl rfl) h_check_history h_table_of
  have h_some_way := c_some_way (P := P) (w := w) (K := K) (mg := mg) (base := base) B Gs (dat X G cd 96 57 (x := "some_way") (st := s_some_way) rfl rfl) h_two_alike h_check_machine
  have h_compare := c_compare (P := P) (w := w) (K := K) (mg := mg) (base := base) B Gs (dat X G cd 97 58 (x := "compare") (st := s_compare) rfl rfl) h_check_machine h_check_history h_counts_of h_parting h_some_way
  have h_lw_counts := c_lw_counts (P := P) (w := w) (K := K) (mg := mg) (base := base) B Gs (dat X G cd 103 64 (x := "_law_counts") (st := s_lw_counts) rfl rfl)
  have h_lw_board := c_lw_board (P := P) (w := w) (K := K) (mg := mg) (base := base) B Gs (dat X G cd 104 65 (x := "_law_board") (st := s_lw_board) rfl rfl)
  have h_lw_vectors := c_lw_vectors (P := P) (w := w) (K := K) (mg := mg) (base := base) B Gs (dat X G cd 105 66 (x := "_law_vectors") (st := s_lw_vectors) rfl rfl)
  have h_lw_table := c_lw_table (P := P) (w := w) (K := K) (mg := mg) (base := base) B Gs (dat X G cd 106 67 (x := "_law_table") (st := s_lw_table) rfl rfl) h_lw_counts h_lw_vectors h_lw_board
  have h_lw_seen := c_lw_seen (P := P) (w := w) (K := K) (mg := mg) (base := base) B Gs (dat X G cd 113 74 (x := "_law_seen") (st := s_lw_seen) rfl rfl) h_lw_counts h_lw_board
  have h_lw_pressed := c_lw_pressed (P := P) (w := w) (K := K) (mg := mg) (base := base) B Gs (dat X G cd 107 68 (x := "_law_pressed") (st := s_lw_pressed) rfl rfl)
  have h_lw_stepped := c_lw_stepped (P := P) (w := w) (K := K) (mg := mg) (base := base) B Gs (dat X G cd 109 70 (x := "_law_stepped") (st := s_lw_stepped) rfl rfl)
  have h_lw_led := c_lw_led (P := P) (w := w) (K := K) (mg := mg) (base := base) B Gs (dat X G cd 112 73 (x := "_law_led") (st := s_lw_led) rfl rfl) h_lw_pressed
  have h_lw_presses := c_lw_presses (P := P) (w := w) (K := K) (mg := mg) (base := base) B Gs (dat X G cd 108 69 (x := "_law_presses") (st := s_lw_presses) rfl rfl)
  have h_lw_apart0 := c_lw_apart0 (P := P) (w := w) (K := K) (mg := mg) (base := base) B Gs (dat X G cd 115 76 (x := "_law_apart") (st := s_lw_apart0) rfl rfl) h_lw_seen
  have h_lw_apart1 := c_lw_apart1 (P := P) (w := w) (K := K) (mg := mg) (base := base) B Gs (dat X G cd 115 76 (x := "_law_apart") (st := s_lw_apart1) rfl rfl) h_lw_seen h_lw_presses h_lw_pressed h_lw_apart0
  have h_lw_apart2 := c_lw_apart2 (P := P) (w := w) (K := K) (mg := mg) (base := base) B Gs (dat X G cd 115 76 (x := "_law_apart") (st := s_lw_apart2) rfl rfl) h_lw_seen h_lw_presses h_lw_pressed h_lw_apart1
  have h_lw_far := c_lw_far (P := P) (w := w) (K := K) (mg := mg) (base := base) B Gs (dat X G cd 111 72 (x := "_law_far") (st := s_lw_far) rfl rfl)
  have h_lw_take := c_lw_take (P := P) (w := w) (K := K) (mg := mg) (base := base) B (dat X G cd 99 60 (x := "_law_take") (st := s_lw_take) rfl rfl)
  have h_lw_pick := c_lw_pick (P := P) (w := w) (K := K) (mg := mg) (base := base) B (dat X G cd 100 61 (x := "_law_pick") (st := s_lw_pick) rfl rfl) h_lw_take
  have h_lw_history := c_lw_history (P := P) (w := w) (K := K) (mg := mg) (base := base) B (dat X G cd 102 63 (x := "_law_history") (st := s_lw_history) rfl rfl) h_lw_take
  have h_lw_machine := c_lw_machine (P := P) (w := w) (K := K) (mg := mg) (base := base) B (dat X G cd 101 62 (x := "_law_machine") (st := s_lw_machine) rfl rfl) h_lw_take h_lw_pick
  have h_lw_other := c_lw_other (P := P) (w := w) (K := K) (mg := mg) (base := base) B (dat X G cd 114 75 (x := "_law_other") (st := s_lw_other) rfl rfl) h_lw_take
  have h_lw_box := c_lw_box (P := P) (w := w) (K := K) (mg := mg) (base := base) B Gs (dat X G cd 98 59 (x := "_law_box") (st := s_lw_box) rfl rfl)
  have h_lw_way_right := c_lw_way_right (P := P) (w := w) (K := K) (mg := mg) (base := base) B Gs (dat X G cd 110 71 (x := "_law_way_right") (st := s_lw_way_right) rfl rfl) h_lw_table h_lw_stepped h_lw_far
  have h_lw_compared := c_lw_compared (P := P) (w := w) (K := K) (mg := mg) (base := base) B Gs (dat X G cd 116 77 (x := "_law_compared") (st := s_lw_compared) rfl rfl) h_lw_counts h_lw_table h_lw_way_right h_lw_led h_lw_seen h_lw_vectors h_lw_board
  exact f_law B F ⟨h_lw_box, h_lw_machine, h_lw_take, h_lw_history, h_lw_other, h_compare, (He.glo_ok X G (cd.fact 97 (f := .glo "compare") rfl)), Fc.kp, f_compare B Gs Fc h_check_machine h_check_history h_counts_of h_parting h_some_way, k_compare Fc, h_lw_compared, h_lw_apart2, KP, WP,
    ok_wi B KP WP h_check_machine h_check_history, ok_wt B KP WP h_pressed h_renewed h_board_of h_counts_of, ok_wb B WP h_compare⟩
end Ow
open PySem PySem.W PySem.Calls PyProof.Rows
theorem PySem.Challenge.cw_ownback_k66_whole_alike_for_ever_or_part_holds : PySem.Challenge.rw_ownback_k66_whole_alike_for_ever_or_part.Holds := by
  w_on; o_law
  refine HandSHeadRun.head_any (r := OwH.R) (q := view OwH.R.prog [111]) (H := OwH.hk) (ob := OwH.ob) (M := 8000) (loose := OwH.names) (d := HandSHeadRun.topDef OwH.R.prog 111) (kwd := []) OwH.ob_eq
    (by kernel_rfl) (fun s => by kernel_rfl) OwH.run (by kernel_rfl) (by kernel_rfl) (by kernel_rfl) (by rfl) (by first | assumption | decide +kernel) (by decide +kernel) ⟨rfl, rfl, rfl, rfl, rfl, by decide +kernel⟩ ?hw ?hc
  case hw => w_witness2
  case hc =>
    refine L2.walk_ofE (l := PySem.Challenge.rw_ownback_k66_whole_alike_for_ever_or_part) (n := 63) (k := 17) (x := "_law_script") (CX := L2.CX0) rfl (by decide) (by kernel_rfl) ⟨rfl, by decide, by decide⟩ ?F (fun _ _ _ _ z => z)
    intro w mg fa h Y G hmg0
    obtain ⟨K, KX, c⟩ := Y
    have hmg : mg ("law" : PySem.Str) = some (.ref fa) := by
      have e : (HandSHeadRun.topDef OwH.R.prog 111).name = ("law" : PySem.Str) := by kernel_rfl
      rw [← e]
      exact hmg0
    obtain ⟨fd, hb, hF⟩ := Ow.facts (P := (PySem.Challenge.rw_ownback_k66_whole_alike_for_ever_or_part).prog) (w := w) KX G hmg c
    exact ⟨K, fd, Ow.S_law K, KX, hb, fun H a ns hl _ hS => ⟨ns, .ref a, rfl, ⟨a, rfl, hS⟩, fun _ => rfl⟩, hF⟩
end
