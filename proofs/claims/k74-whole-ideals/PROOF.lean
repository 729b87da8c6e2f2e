import PyProof.Rows.All
import Wide.All
import OpenK.AllK
import Wide.FinOn
import PySem.Challenge.RW_carryturns_k74_whole_ideals_told
import KE.KStateDown
import HandS.ForMost
import HandS.Head0
import HandS.Head1
import HandS.Head2
import HandS.HeadEnd
import HandS.HeadHook1
import HandS.HeadHook2
import HandS.HeadHook3
import HandS.HeadHook4
import HandS.HeadNt
import HandS.EndTab
import HandS.HeadWalk
import HandS.ForExc
import HandS.Slots
import HandS.SlotsOwn
import HandS.Star
import HandS.Evl
import HandS.Lambda
import HandS.IsInst
import HandS.Wide
import HandS.WideBits
import HandS.ClsMeth
import HandS.TupAny
import HandS.Conv
import HandS.Zip
import KE.GoesEnum
import KE.GoesZip
import KE.GoesMore
import KE.DataAny
import KE.DataMinMax
import HandS.SortInts
import HandS.FStr
import HandS.Dict
import HandS.Iter
import HandS.Style
import HandS.Text
import KE.KCallOwn
import PyProof.InstNe
import KE.KRevSl
import HandS.SortKw
import KE.SortKeyHeap
import KE.SortData
import HandS.TryOnly
import HandS.ExcOwn
import HandS.WordsExc
import HandS.OwnIter
import HandS.IterNext
import HandS.OwnEq
import PyProof.Rows.TupIter
/-! text WTop -/
section
set_option Elab.async false
set_option linter.all false
/-! the statements of the text, by their places -/
namespace Q
open PySem
def top (i : Nat) : Stmt := PySem.Challenge.pw_carryturns_k74_whole_ideals_told.main.body.getD i (.Pass ⟨0, 0, 0, 0⟩)
def clsB : Stmt → List Stmt
  | .ClassDef _ _ _ b .. => b
  | _ => []
def met (i j : Nat) : Stmt := (clsB (top i)).getD j (.Pass ⟨0, 0, 0, 0⟩)
end Q
end

/-! text W30 -/
section
set_option Elab.async false
set_option linter.all false
set_option maxRecDepth 100000
/-! the head: what the run of the top is asked for -/
namespace Q
open PySem PySem.Spec PyProof.Rows L2
abbrev Fr := PySem.W.Frag
def cN : Nat → Str
  | 0 => "Frame"
  | 1 => "Kept"
  | 2 => "Turn"
  | 3 => "Made"
  | 4 => "Ideal"
  | _ => "InvalidIdeal"
def cA (K : Fr) (i : Nat) : Addr := He.ga K (cN i)
def tN : List String := ["NoneType", "bool", "int", "str", "tuple", "list"]
def sclsB (K : Fr) (C : Addr) : Bool := PySem.W.plainGet K C Str.empty && (PySem.W.isClsIn K C && (PySem.W.plainOver K C && He.eqO (PySem.W.findIn K (.ref C) "__setattr__") (some (some (.builtin "object.__setattr__")))))
def sisiB (K : Fr) (C : Addr) : Bool := He.eqO (PySem.W.findIn K (.ref C) "__class__") (some (some (.builtin "object.__class__"))) && (He.eqO (PySem.W.specialIn K (.builtin "object.__class__") "__get__") (some (some (.builtin "getset_descriptor.__get__"))) && (decide (PySem.W.takesIn K (.builtin "object.__class__") = some true) && decide (PySem.W.mroIn K C (.type "object") = some true)))
abbrev Sq : Type := Nat × Str × Nat
def slotB (K : Fr) (q : Sq) : Bool := He.eqO (PySem.W.findIn K (.ref (cA K q.1)) q.2.1) (some (some (.ref (He.ma K (cA K q.1) q.2.1)))) && (He.eqO (PySem.W.specialIn K (.ref (He.ma K (cA K q.1) q.2.1)) "__get__") (some (some (.builtin "member_descriptor.__get__"))) && (decide (PySem.W.takesIn K (.ref (He.ma K (cA K q.1) q.2.1)) = some true) &&
  (decide (PySem.W.typeIn K (.ref (He.ma K (cA K q.1) q.2.1)) = some (.type "member_descriptor")) && (decide (PySem.W.slotIn K (He.ma K (cA K q.1) q.2.1) (cA K q.1) = some q.2.2) && decide (q.2.2 < 1000)))))
def slL : List Sq := [(0, "own_order", 0), (0, "own_rows", 1), (0, "own_size", 2), (0, "own_units", 3), (1, "own_entries", 0), (1, "own_frame", 1), (2, "own_entries", 0), (2, "own_frame", 1), (2, "own_order", 2), (3, "own_frame", 0), (3, "own_rows", 1), (4, "own_frame", 0), (4, "own_order", 1), (4, "own_rows", 2), (4, "own_size", 3), (4, "own_text", 4)]
def propB (K : Fr) (f : Str) : Bool := He.eqO (PySem.W.findIn K (.ref (cA K 4)) f) (some (some (.ref (He.ma K (cA K 4) f)))) && (He.eqO (PySem.W.specialIn K (.ref (He.ma K (cA K 4) f)) "__get__") (some (some (.builtin "property.__get__"))) && (decide (PySem.W.takesIn K (.ref (He.ma K (cA K 4) f)) = some true) && (match PySem.W.recIn K (He.ma K (cA K 4) f) "property" with
  | some (.ref _ :: _) => true
  | _ => false)))
def cmB (K : Fr) : Bool := PySem.W.readsIn K (cA K 2) (.type "type") && (He.eqO (PySem.W.specialIn K (.ref (cA K 2)) "__getattribute__") (some (some (.builtin "type.__getattribute__"))) && (He5.wrapB K (cA K 2) "classmethod" "classmethod.__get__" "whole" && PySem.W.fnIn K (He5.wf K (cA K 2) "classmethod" "whole")))
def owB (K : Fr) (m : Str) : Bool := He.eqO (PySem.W.findIn K (.ref (cA K 4)) m) (some (some (.ref (He.ma K (cA K 4) m)))) && PySem.W.isFn K (.ref (He.ma K (cA K 4) m))
def idxB (K : Fr) : Bool := He.eqO (PySem.W.findIn K (.ref (cA K 4)) "__ne__") (some (some (.builtin "object.__ne__"))) && (decide (PySem.W.mroIn K (cA K 4) (.type "object") = some true) && (PySem.W.notFirst K (cA K 4) (.ref (cA K 4)) && PySem.W.notFirst K (cA K 4) (.type "tuple")))
def kitsB (K : Fr) : Bool := (tN.all fun t => (List.range 5).all fun c => decide (PySem.W.kitOne K (.type t) (.ref (cA K c)) = some false)) && ((List.range 5).all fun c => (List.range 5).all fun d => decide (PySem.W.kitOne K (.ref (cA K c)) (.ref (cA K d)) = some (decide (c = d))))
def faF : List He.Fa := [.free "zip", .free "enumerate", .free "range", .free "len", .free "isinstance", .free "int", .free "bool", .free "abs", .free "max", .free "min", .free "list", .free "tuple", .free "sorted", .free "str", .free "all", .free "any", .free "iter"]
def gN1 : List Str := ["is_whole", "is_integer", "common_of", "units_list", "powers_in", "divisors_in", "exact_quotient", "cyclotomic_in", "z_times", "combined", "is_in_rows", "are_least", "are_told_rows", "are_ideal_rows", "is_entries_of", "require_order", "require_ideal_order", "turn_with", "made_ideal", "whole_in", "whole_ideal", "_law_divisors"]
def gN2 : List Str := ["_law_poly_over", "_law_cyclotomic", "_law_turn_cut", "_law_turn_times", "_law_turn_power", "_law_turn_whole", "_law_row_less", "_law_is_in_rows", "_law_ideal_size", "_law_roll", "_law_pick", "_law_small_order", "_law_turn_drawn", "_law_turn_other", "_law_dice", "_law_are_ideal_rows", "_law_near", "_law_ideal_rows", "_law_ideal_drawn", "_law_span_rows", "_law_made_or_none", "_law_right", "law"]
def faG : List He.Fa := (gN1 ++ gN2).map He.Fa.glo
def faI : List He.Fa := [.int "GREAT" (10 ^ 60), .int "MOST_ORDER_frames" 60, .int "MAX_RANK" 8, .int "MOST_ORDER_ideals" 60]
def faC : List He.Fa := [.glo "Frame", .glo "Kept", .glo "Turn", .glo "Made", .glo "Ideal", .glo "InvalidIdeal"]
def faM : List He.Fa := [.meth "Frame" "folded", .meth "Frame" "product", .meth "Frame" "power_row", .meth "Frame" "whole_row", .mkr "Frame", .mkr "Kept", .mkr "Turn", .mkr "Made", .mkr "Ideal", .exc "InvalidIdeal", .exm "InvalidIdeal" "InvalidIdeal" true]
/-- each test by itself -/
def exs (K : Fr) : List Bool := [faF.all (·.ok K), faG.all (·.ok K), faI.all (·.ok K), faC.all (·.ok K), faM.all (·.ok K), (List.range 5).all fun c => sclsB K (cA K c), (List.range 5).all fun c => sisiB K (cA K c), slL.all (slotB K), propB K "order", propB K "rows", propB K "size", cmB K, owB K "__str__", owB K "__len__", owB K "__iter__", owB K "__eq__", owB K "__contains__", idxB K, kitsB K]
def dG (x : Str) (st : Stmt) : He5.DefA := ⟨fun K => He.ga K x, x, x, defArgs st, defBody st, defScope st, [], []⟩
def dM (i : Nat) (m qual : Str) (st : Stmt) : He5.DefA := ⟨fun K => He.ma K (cA K i) m, m, qual, defArgs st, defBody st, defScope st, [], []⟩
def dW (i : Nat) (T : String) (m qual : Str) (st : Stmt) : He5.DefA := ⟨fun K => He5.wf K (cA K i) T m, m, qual, defArgs st, defBody st, defScope st, [], []⟩
def fn1 : List He5.DefA := [dG "is_whole" (top 11), dG "is_integer" (top 12), dG "common_of" (top 14), dG "units_list" (top 16), dG "powers_in" (top 13), dG "divisors_in" (top 15), dG "exact_quotient" (top 20), dG "cyclotomic_in" (top 21), dM 0 "__init__" "Frame.__init__" (met 22 1), dM 0 "folded" "Frame.folded" (met 22 2), dM 0 "product" "Frame.product" (met 22 3), dM 0 "power_row" "Frame.power_row" (met 22 5), dM 0 "whole_row" "Frame.whole_row" (met 22 6), dG "z_times" (top 55), dG "combined" (top 43), dG "is_in_rows" (top 48), dG "are_least" (top 49), dG "are_told_rows" (top 56), dG "are_ideal_rows" (top 57), dG "is_entries_of" (top 23), dG "require_order" (top 19), dG "require_ideal_order" (top 53), dM 1 "__init__" "Kept.__init__" (met 28 1), dM 3 "__init__" "Made.__init__" (met 54 1), dM 2 "__init__" "Turn.__init__" (met 38 1), dG "turn_with" (top 39), dW 2 "classmethod" "whole" "Turn.whole" (met 38 3), dM 4 "__init__" "Ideal.__init__" (met 58 1), dG "made_ideal" (top 59), dG "whole_in" (top 64), dG "whole_ideal" (top 65), dW 4 "property" "order" "Ideal.order" (met 58 2)]
def fn2 : List He5.DefA := [dW 4 "property" "rows" "Ideal.rows" (met 58 3), dW 4 "property" "size" "Ideal.size" (met 58 4), dM 4 "__len__" "Ideal.__len__" (met 58 14), dM 4 "__str__" "Ideal.__str__" (met 58 16), dM 4 "__contains__" "Ideal.__contains__" (met 58 12), dM 4 "__eq__" "Ideal.__eq__" (met 58 13), dG "_law_divisors" (top 70), dG "_law_poly_over" (top 71), dG "_law_cyclotomic" (top 72), dG "_law_turn_cut" (top 73), dG "_law_turn_times" (top 74), dG "_law_turn_power" (top 75), dG "_law_turn_whole" (top 76), dG "_law_row_less" (top 78), dG "_law_is_in_rows" (top 80), dG "_law_ideal_size" (top 82), dG "_law_roll" (top 68), dG "_law_pick" (top 69), dG "_law_small_order" (top 83), dG "_law_turn_drawn" (top 77), dG "_law_turn_other" (top 84), dG "_law_dice" (top 67), dG "_law_are_ideal_rows" (top 86), dG "_law_near" (top 88), dG "_law_ideal_rows" (top 81), dG "_law_ideal_drawn" (top 85), dG "_law_span_rows" (top 79), dG "_law_made_or_none" (top 87), dM 4 "__iter__" "Ideal.__iter__" (met 58 15), dG "_law_right" (top 89), dG "law" (top 90)]
def fnL : List He5.DefA := fn1 ++ fn2
def tfL : List He.Defn := [("_law_span_rows", none)]
abbrev AlC : Type := Bool × List He5.FnW
def adC : List Addr := List.range 1000
def frgC (g : Addr → Option Obj) : Fr := He.frT g adC
def obsK (g : Addr → Option Obj) (K : Fr) : AlC := ((exs K).all id && (fnL.all (·.ok K) && He.tabsB g tfL K), fnL.map fun d => He5.fnA K (d.at_ K))
def obsC (g : Addr → Option Obj) : AlC := obsK g (frgC g)
def valC : AlC := (true, fnL.map He5.DefA.val)
/-- what is told of a part K of the heap h -/
structure SaysC (h : Heap) (K : Fr) : Prop where
  ex : ∀ (i : Nat) (b : Bool), (exs K)[i]? = some b → b = true
  defs : ∀ (i : Nat) (d : He5.DefA), fnL[i]? = some d → ∃ fd, L2.FunD K d.name d.qual d.params d.body d.scope (d.dvs K) (d.kws K) (d.at_ K) fd
  hd : ∀ p ∈ tfL, PySem.W.codeHdIn K (He.cT K p).1 (He.cT K p).2 = true
  out : ∀ p ∈ tfL, K.lookup (He.cT K p).2 = none
  empty : ∀ p ∈ tfL, h.get? (He.cT K p).2 = some { cls := .none, data := .fields #[] }
theorem saysK {h : Heap} {K : Fr} (hK : ∀ a o, h.get? a = some o → He.emptyTab o = true → K.lookup a = none) (e : obsK h.get? K = valC) : SaysC h K := by
  unfold obsK valC at e
  obtain ⟨e1, e2⟩ := Prod.mk.inj e
  obtain ⟨a, b⟩ := He.ba e1
  obtain ⟨b, c⟩ := He.ba b
  have key : ∀ p ∈ tfL, PySem.W.codeHdIn K (He.cT K p).1 (He.cT K p).2 = true ∧ ∃ o, h.get? (He.cT K p).2 = some o ∧ He.emptyTab o = true := fun p hp => by
    obtain ⟨h3, h4⟩ := He.ba (List.all_eq_true.mp c p hp)
    refine ⟨h3, ?_⟩
    cases q : h.get? (He.cT K p).2 with
    | none =>
      rw [q] at h4
      cases h4
    | some o =>
      rw [q] at h4
      exact ⟨o, rfl, h4⟩
  refine ⟨fun i x hx => List.all_eq_true.mp a x (List.mem_of_getElem? hx), fun i d hd => ?_, fun p hp => (key p hp).1, fun p hp => ?_, fun p hp => ?_⟩
  · have e3 : (fnL.map fun d => He5.fnA K (d.at_ K))[i]? = (fnL.map He5.DefA.val)[i]? := by rw [e2]
    rw [List.getElem?_map, List.getElem?_map, hd] at e3
    exact He5.DefA.funD (Option.some.inj e3) (List.all_eq_true.mp b d (List.mem_of_getElem? hd))
  · obtain ⟨_, o, q, z⟩ := key p hp
    exact hK _ o q z
  · obtain ⟨_, o, q, z⟩ := key p hp
    rw [q, He.emptyTab_eq z]
theorem saysC_of {h : Heap} (e : obsC h.get? = valC) : SaysC h (frgC h.get?) := saysK (fun _ _ q z => He.frT_none q z) e
abbrev hkC : PySem.W.Hook where
  α := AlC
  obs := fun s => obsC s.heap.get?
  val := fun _ => valC
  says := fun _ h => ∃ K : Fr, K.In h ∧ SaysC h K
  of := fun _ _ e => ⟨_, He.frT_in, saysC_of e⟩
  keeps := fun _ _ _ ⟨K, hK, c⟩ k => ⟨K, PySem.W.Frag.In.keeps hK k, ⟨c.ex, c.defs, c.hd, c.out, fun p hp => k _ _ (c.empty p hp)⟩⟩
abbrev rowC : PySem.W.OpenRow := PySem.W.OpenLaw.row PySem.Challenge.rw_carryturns_k74_whole_ideals_told
abbrev viewC : Program := PySem.W.view rowC.prog [90]
def obC (s : PySem.W.SharedT) : AlC := obsC (HandSHeadRun.getT s)
theorem obC_eq (s : PySem.W.SharedT) : obC s = hkC.obs s.abs := by
  have e : HandSHeadRun.getT s = s.abs.heap.get? := funext (HandSHeadRun.getT_eq s)
  show obsC (HandSHeadRun.getT s) = obsC s.abs.heap.get?
  rw [e]
end Q
end

/-! text WRun -/
section
set_option Elab.async false
set_option linter.all false
set_option maxRecDepth 100000
set_option maxHeartbeats 0
/-! the run of the top, in four looks -/
namespace Q
open PySem PySem.W PySem.Calls PyProof.Rows
def lo1 : List PySem.Str := ["_wall", "TurnError", "InvalidOrder", "InvalidTurn", "InvalidIdeal", "InvalidOperation", "ParseError", "InvalidCount", "GREAT", "is_whole", "is_integer", "powers_in", "common_of", "divisors_in", "units_list", "MOST_ORDER_frames", "require_order", "exact_quotient", "cyclotomic_in", "Frame", "is_entries_of", "MAX_ORDER", "MAX_FIGURES", "FIGURES", "Kept", "term_of", "text_of", "figures_in", "place_in", "term_in"]
def lo2 : List PySem.Str := ["parts_in", "entries_in", "order_in", "turn_in", "Turn", "turn_with", "require_turn", "require_same_order", "combined", "shares_of_two", "taken_in", "least_of", "least_rows", "is_in_rows", "are_least", "MAX_RANK", "MOST_ORDER_ideals", "require_ideal_order", "Made", "z_times", "are_told_rows", "are_ideal_rows", "Ideal", "made_ideal", "ideal_with", "require_ideal", "require_like", "product_in", "whole_in", "whole_ideal"]
def lo3 : List PySem.Str := ["_law_dice", "_law_roll", "_law_pick", "_law_divisors", "_law_poly_over", "_law_cyclotomic", "_law_turn_cut", "_law_turn_times", "_law_turn_power", "_law_turn_whole", "_law_turn_drawn", "_law_row_less", "_law_span_rows", "_law_is_in_rows", "_law_ideal_rows", "_law_ideal_size", "_law_small_order", "_law_turn_other", "_law_ideal_drawn", "_law_are_ideal_rows", "_law_made_or_none", "_law_near", "_law_right"]
def loL : List PySem.Str := lo1 ++ (lo2 ++ lo3)
noncomputable abbrev endR (w : World) (os : OsState) : Option SharedT := HandSHeadRun.endF (HandSHeadRun.stepQ (HandSHeadRun.denQ HandSHeadRun.tabQ) rowC.prog w) 30000 rowC.prog w os
theorem run1 (w : World) (os : OsState) : (endR w os).map (fun s => (HandSHeadRun.looksF rowC.prog (boot_heap w.params) s.abs, HandSHeadRun.seenQ viewC loL (importedModules rowC.prog.main.body) (fun s => xlAt viewC [] s && recOk rowC.toRowW.records s) s.abs)) = some (true, openGood viewC loL) := by
  kernel_rfl
theorem run2 (w : World) (os : OsState) : (endR w os).map (fun s => (exs (frgC (HandSHeadRun.getT s))).all id) = some true := by
  kernel_rfl
theorem run3 (w : World) (os : OsState) : (endR w os).map (fun s => fnL.all (fun d => d.ok (frgC (HandSHeadRun.getT s))) && He.tabsB (HandSHeadRun.getT s) tfL (frgC (HandSHeadRun.getT s))) = some true := by
  kernel_rfl
theorem run4 (w : World) (os : OsState) : (endR w os).map (fun s => fnL.map fun d => He5.fnA (frgC (HandSHeadRun.getT s)) (d.at_ (frgC (HandSHeadRun.getT s)))) = some (fnL.map He5.DefA.val) := by
  kernel_rfl
theorem join4 {S A F : Type} {o : Option S} {l : S → Bool} {f : S → A} {x d : S → Bool} {g : S → F} {a : A} {v : F} (h1 : o.map (fun s => (l s, f s)) = some (true, a)) (h2 : o.map x = some true) (h3 : o.map d = some true) (h4 : o.map g = some v) : o.map (fun s => (l s, f s, (x s && d s, g s))) = some (true, a, (true, v)) := by
  cases o with
  | none => cases h2
  | some s =>
    have e1 : (l s, f s) = (true, a) := Option.some.inj h1
    have e2 : x s = true := Option.some.inj h2
    have e3 : d s = true := Option.some.inj h3
    have e4 : g s = v := Option.some.inj h4
    obtain ⟨e5, e6⟩ := Prod.mk.inj e1
    show some (l s, f s, (x s && d s, g s)) = _
    rw [e5, e6, e2, e3, e4]
    rfl
theorem runC (w : World) : HandSHeadRun.RunEq rowC viewC hkC obC 30000 loL w := fun os => join4 (run1 w os) (run2 w os) (run3 w os) (run4 w os)
end Q
end

/-! text LayA -/
section
set_option Elab.async false
set_option linter.all false
set_option maxRecDepth 100000
/-! A small layer of my own over the hand layer: pure values B, what denotes them, slots that are shared or owned, readings of one fixed form. -/
namespace Q
open PySem PySem.Spec PyProof.Rows L2

/-- a pure value -/
inductive B where
  | non | bl (b : Bool) | int (i : Int) | str (x : Str)
  | tup (xs : List B) | lst (xs : List B)
  | ob (c : Nat) (fs : List B)
  | rng (lo hi : Int)
  | scr (ns : List Int)
  | dic (ks : List Int) (vs : List B)
  | pob (c j : Nat) (x : B)
  | ty (n : String)
  | cl (c : Nat)
/-- the addresses of the text's own classes, the written part -/
structure Ct where
  cls : Nat → Addr
  K : PySem.W.Frag
/-- an owned thing: a list or a dict that is being changed -/
inductive OB where
  | lst (xs : List B) | dic (kvs : List (Int × B))
  | ins (c : Nat) (dx : Addr) (vs : List (Option B))
  | lk (d : Addr) (o : Obj) (kvs : List (Key × V)) (kbs : List (Int × B))
/-- a slot: unknown, a shared value, an owned thing -/
inductive Sl where
  | un | va (b : B) | ow (b : OB) | tk (T : List (Addr × Str))

abbrev Ex := Evl.Ex

mutual
inductive Den (C : Ct) (H : Hp) : V → B → Prop
  | non : Den C H .non .non
  | bl (b : Bool) : Den C H (.bl b) (.bl b)
  | int (i : Int) : Den C H (.int i) (.int i)
  | str (x : Str) : Den C H (.str x) (.str x)
  | tup {a : Addr} {xs : List V} {bs : List B} : H a = some (.tup xs) → DenAll C H xs bs → Den C H (.ref a) (.tup bs)
  | lst {a : Addr} {xs : List V} {bs : List B} : H a = some (.lst xs) → DenAll C H xs bs → Den C H (.ref a) (.lst bs)
  | ob {a dx : Addr} {c : Nat} {xs : List V} {bs : List B} : H a = some (SlX.SlO a (C.cls c) dx (xs.map some)) → H dx = some (.xd []) → DenAll C H xs bs → Den C H (.ref a) (.ob c bs)
  | rng {a : Addr} {lo hi : Int} : H a = some (.rng lo hi) → Den C H (.ref a) (.rng lo hi)
  | scr {a : Addr} {ns : List Int} : SqL C.K H a (ns.map V.int) → Den C H (.ref a) (.scr ns)
  | dic {a : Addr} {o : Obj} {kvs : List (Key × V)} {ks : List Int} {vs : List B} : H a = some (.frz o (.dK kvs)) → kvs.map (·.1) = ks.map Sum.inl → DenAll C H (kvs.map (·.2)) vs → Den C H (.ref a) (.dic ks vs)
  | pob {a dx : Addr} {c j : Nat} {us : List (Option V)} {v : V} {x : B} : H a = some (SlX.SlO a (C.cls c) dx us) → H dx = some (.xd []) → us[j]? = some (some v) → Den C H v x → Den C H (.ref a) (.pob c j x)
  | ty (n : String) : Den C H (.ty n) (.ty n)
  | cl (c : Nat) : Den C H (.ref (C.cls c)) (.cl c)
inductive DenAll (C : Ct) (H : Hp) : List V → List B → Prop
  | nil : DenAll C H [] []
  | cons {v : V} {vs : List V} {b : B} {bs : List B} : Den C H v b → DenAll C H vs bs → DenAll C H (v :: vs) (b :: bs)
end

section
variable {C : Ct} {H H' : Hp}
mutual
theorem Den.mono (e : Ex H H') : ∀ {v : V} {b : B}, Den C H v b → Den C H' v b
  | _, _, .non => .non
  | _, _, .bl b => .bl b
  | _, _, .int i => .int i
  | _, _, .str x => .str x
  | _, _, .tup h r => .tup (e _ _ h) (DenAll.mono e r)
  | _, _, .lst h r => .lst (e _ _ h) (DenAll.mono e r)
  | _, _, .ob h h2 r => .ob (e _ _ h) (e _ _ h2) (DenAll.mono e r)
  | _, _, .rng h => .rng (e _ _ h)
  | _, _, .scr h => .scr (Evl.ex_l e h)
  | _, _, .dic h k r => .dic (e _ _ h) k (DenAll.mono e r)
  | _, _, .pob h h2 hu r => .pob (e _ _ h) (e _ _ h2) hu (Den.mono e r)
  | _, _, .ty n => .ty n
  | _, _, .cl c => .cl c
theorem DenAll.mono (e : Ex H H') : ∀ {vs : List V} {bs : List B}, DenAll C H vs bs → DenAll C H' vs bs
  | _, _, .nil => .nil
  | _, _, .cons h r => .cons (Den.mono e h) (DenAll.mono e r)
end
theorem DenAll.len : ∀ {vs : List V} {bs : List B}, DenAll C H vs bs → vs.length = bs.length
  | _, _, .nil => rfl
  | _, _, .cons _ r => congrArg Nat.succ r.len
theorem DenAll.get : ∀ {vs : List V} {bs : List B} {i : Nat} {b : B}, DenAll C H vs bs → bs[i]? = some b → ∃ v, vs[i]? = some v ∧ Den C H v b
  | _, _, _, _, .nil, h => by simp at h
  | _, _, 0, _, .cons h _, e => by
    have e2 := Option.some.inj e
    subst e2
    exact ⟨_, rfl, h⟩
  | _, _, i + 1, b, .cons _ r, e => by
    obtain ⟨v, h1, h2⟩ := DenAll.get (i := i) (b := b) r e
    exact ⟨v, h1, h2⟩
theorem DenAll.getV : ∀ {vs : List V} {bs : List B} {i : Nat} {v : V}, DenAll C H vs bs → vs[i]? = some v → ∃ b, bs[i]? = some b ∧ Den C H v b
  | _, _, _, _, .nil, h => by simp at h
  | _, _, 0, _, .cons h _, e => by
    have e2 := Option.some.inj e
    subst e2
    exact ⟨_, rfl, h⟩
  | _, _, i + 1, b, .cons _ r, e => by
    obtain ⟨v, h1, h2⟩ := DenAll.getV (i := i) (v := b) r e
    exact ⟨v, h1, h2⟩
theorem DenAll.append : ∀ {vs ws : List V} {bs cs : List B}, DenAll C H vs bs → DenAll C H ws cs → DenAll C H (vs ++ ws) (bs ++ cs)
  | _, _, _, _, .nil, s => s
  | _, _, _, _, .cons h r, s => .cons h (DenAll.append r s)
theorem DenAll.take : ∀ {vs : List V} {bs : List B} (n : Nat), DenAll C H vs bs → DenAll C H (vs.take n) (bs.take n)
  | _, _, 0, _ => .nil
  | _, _, _ + 1, .nil => .nil
  | _, _, n + 1, .cons h r => .cons h (DenAll.take n r)
theorem DenAll.drop : ∀ {vs : List V} {bs : List B} (n : Nat), DenAll C H vs bs → DenAll C H (vs.drop n) (bs.drop n)
  | _, _, 0, r => r
  | _, _, _ + 1, .nil => .nil
  | _, _, n + 1, .cons _ r => DenAll.drop n r
theorem DenAll.set : ∀ {vs : List V} {bs : List B} (i : Nat) {v : V} {b : B}, DenAll C H vs bs → Den C H v b → DenAll C H (vs.set i v) (bs.set i b)
  | _, _, _, _, _, .nil, _ => .nil
  | _, _, 0, _, _, .cons _ r, d => .cons d r
  | _, _, i + 1, _, _, .cons h r, d => .cons h (DenAll.set i r d)
theorem DenAll.ints : ∀ {vs : List V} {ns : List Int}, DenAll C H vs (ns.map B.int) → vs = ns.map V.int
  | vs, [], h => by cases h; rfl
  | vs, n :: ns, h => by
    cases h with
    | cons h r =>
      cases h
      rw [DenAll.ints r]
      rfl
theorem DenAll.of_ints : ∀ (ns : List Int), DenAll C H (ns.map V.int) (ns.map B.int)
  | [] => .nil
  | n :: ns => .cons (.int n) (DenAll.of_ints ns)
theorem DenAll.bls : ∀ {vs : List V} {ns : List Bool}, DenAll C H vs (ns.map B.bl) → vs = ns.map V.bl
  | vs, [], h => by cases h; rfl
  | vs, n :: ns, h => by
    cases h with
    | cons h r =>
      cases h
      rw [DenAll.bls r]
      rfl
theorem DenAll.strs : ∀ {vs : List V} {ns : List Str}, DenAll C H vs (ns.map B.str) → vs = ns.map V.str
  | vs, [], h => by cases h; rfl
  | vs, n :: ns, h => by
    cases h with
    | cons h r =>
      cases h
      rw [DenAll.strs r]
      rfl
end

/-- slots of an instance, as far as they are stored -/
inductive ODen (C : Ct) (H : Hp) : List (Option V) → List (Option B) → Prop
  | nil : ODen C H [] []
  | un {us : List (Option V)} {vs : List (Option B)} : ODen C H us vs → ODen C H (Option.none :: us) (Option.none :: vs)
  | so {v : V} {b : B} {us : List (Option V)} {vs : List (Option B)} : Den C H v b → ODen C H us vs → ODen C H (Option.some v :: us) (Option.some b :: vs)
theorem ODen.mono {C : Ct} {H H' : Hp} (e : Ex H H') : ∀ {us : List (Option V)} {vs : List (Option B)}, ODen C H us vs → ODen C H' us vs
  | _, _, .nil => .nil
  | _, _, .un r => .un (r.mono e)
  | _, _, .so d r => .so (d.mono e) (r.mono e)
/-- what stands at an owned address -/
def OwnAt (C : Ct) (H0 H : Hp) (p : Addr) : OB → Prop
  | .lst bs => ∃ vs, H p = some (.lst vs) ∧ DenAll C H0 vs bs
  | .dic kbs => ∃ kvs : List (Key × V), H p = some (.dK kvs) ∧ kvs.map (·.1) = kbs.map (fun q => Sum.inl q.1) ∧ DenAll C H0 (kvs.map (·.2)) (kbs.map (·.2))
  | .ins c dx vs => ∃ us, dx ≠ p ∧ H0 dx = none ∧ ((H p = some (.ins (C.cls c) dx []) ∧ us = [] ∧ H dx = some (.own p)) ∨ (H p = some (SlX.SlO p (C.cls c) dx us) ∧ H dx = some (.xd []))) ∧ ODen C H0 us vs
  | .lk d o kvs kbs => p = d ∧ H p = some (.frz o (.dK kvs)) ∧ kvs.map (·.1) = kbs.map (fun q => Sum.inl q.1) ∧ DenAll C H0 (kvs.map (·.2)) (kbs.map (·.2))
theorem OwnAt.there {C : Ct} {H0 H : Hp} {p : Addr} : ∀ {b : OB}, OwnAt C H0 H p b → H p ≠ none
  | .lst _, ⟨vs, h, _⟩ => by rw [h]; exact fun q => nomatch q
  | .dic _, ⟨kvs, h, _, _⟩ => by rw [h]; exact fun q => nomatch q
  | .ins _ _ _, ⟨us, _, _, h, _⟩ => by
    rcases h with ⟨h, _⟩ | ⟨h, _⟩ <;> (rw [h]; exact fun q => nomatch q)
  | .lk _ _ _ _, ⟨_, h, _, _⟩ => by rw [h]; exact fun q => nomatch q
theorem OwnAt.mono {C : Ct} {H0 H H0' H' : Hp} {p : Addr} (e : Ex H0 H0') (s : ∀ a, H a ≠ none → H0 a = none → H0' a = none ∧ H' a = H a) (hp : H0 p = none) : ∀ {b : OB}, OwnAt C H0 H p b → OwnAt C H0' H' p b
  | .lst _, ⟨vs, h, d⟩ => ⟨vs, by rw [(s p (by rw [h]; exact fun q => nomatch q) hp).2]; exact h, d.mono e⟩
  | .dic _, ⟨kvs, h, k, d⟩ => ⟨kvs, by rw [(s p (by rw [h]; exact fun q => nomatch q) hp).2]; exact h, k, d.mono e⟩
  | .ins _ dx _, ⟨us, n, hd, h, d⟩ => by
    rcases h with ⟨h1, h2, h3⟩ | ⟨h1, h2⟩
    · obtain ⟨q1, q2⟩ := s dx (by rw [h3]; exact fun q => nomatch q) hd
      obtain ⟨q3, q4⟩ := s p (by rw [h1]; exact fun q => nomatch q) hp
      exact ⟨us, n, q1, .inl ⟨by rw [q4]; exact h1, h2, by rw [q2]; exact h3⟩, d.mono e⟩
    · obtain ⟨q1, q2⟩ := s dx (by rw [h2]; exact fun q => nomatch q) hd
      obtain ⟨q3, q4⟩ := s p (by rw [h1]; exact fun q => nomatch q) hp
      exact ⟨us, n, q1, .inr ⟨by rw [q4]; exact h1, by rw [q2]; exact h2⟩, d.mono e⟩
  | .lk _ _ _ _, ⟨g, h, k, d⟩ => ⟨g, by rw [(s p (by rw [h]; exact fun q => nomatch q) hp).2]; exact h, k, d.mono e⟩
/-- a list or a dict -/
def Plain : HO → Prop
  | .lst _ => True
  | .dK _ => True
  | .frz _ _ => True
  | _ => False
/-- a list or a dict elsewhere is changed -/
theorem OwnAt.other {C : Ct} {H0 H : Hp} {p r : Addr} {o o' : HO} (hr : r ≠ p) (hp : H p = some o) (pl : Plain o) : ∀ {b : OB}, OwnAt C H0 H r b → OwnAt C H0 (upd H p o') r b
  | .lst _, ⟨vs, h, d⟩ => ⟨vs, by rw [upd_ne hr]; exact h, d⟩
  | .dic _, ⟨kvs, h, k, d⟩ => ⟨kvs, by rw [upd_ne hr]; exact h, k, d⟩
  | .ins _ dx _, ⟨us, n, hd, h, d⟩ => by
    have nd : dx ≠ p := fun z => by
      rw [z] at h
      rcases h with ⟨_, _, h3⟩ | ⟨_, h2⟩
      · rw [hp] at h3; cases h3; exact pl
      · rw [hp] at h2; cases h2; exact pl
    refine ⟨us, n, hd, ?_, d⟩
    rw [upd_ne hr, upd_ne nd]
    exact h
  | .lk _ _ _ _, ⟨g, h, k, d⟩ => ⟨g, by rw [upd_ne hr]; exact h, k, d⟩
/-- a list elsewhere is shared from now on -/
theorem OwnAt.frozen {C : Ct} {H0 H : Hp} {p r : Addr} {vs : List V} (hp : H p = some (.lst vs)) (h0 : H0 p = none) {b : OB} (h : OwnAt C H0 H r b) (hr : r ≠ p) : OwnAt C (upd H0 p (.lst vs)) H r b := by
  have e : Ex H0 (upd H0 p (.lst vs)) := Evl.Ex.new h0
  cases b with
  | lst bs =>
    obtain ⟨us, q, d⟩ := h
    exact ⟨us, q, d.mono e⟩
  | dic kbs =>
    obtain ⟨kvs, q, k, d⟩ := h
    exact ⟨kvs, q, k, d.mono e⟩
  | ins c dx ws =>
    obtain ⟨us, n, hd, q, d⟩ := h
    have nd : dx ≠ p := fun z => by
      rw [z] at q
      rcases q with ⟨_, _, h3⟩ | ⟨_, h2⟩
      · rw [hp] at h3; cases h3
      · rw [hp] at h2; cases h2
    exact ⟨us, n, by rw [upd_ne nd]; exact hd, q, d.mono e⟩
  | lk d o kvs kbs =>
    obtain ⟨g, q, k, d⟩ := h
    exact ⟨g, q, k, d.mono e⟩

theorem tabs_upd {T : List (Addr × Str)} {H : Hp} {p : Addr} {o o0 : HO} (t : LamX.Tabs T H) (h : H p = some o0) (pl : Plain o0) : LamX.Tabs T (upd H p o) := fun q hq => by
  obtain ⟨ps, h1, h2, h3⟩ := t q hq
  have n1 : q.1 ≠ p := fun z => by
    rw [z, h] at h1
    cases h1
    exact pl
  refine ⟨ps, by rw [upd_ne n1]; exact h1, h2, fun pos cv hc => ?_⟩
  obtain ⟨c, e1, e2⟩ := h3 pos cv hc
  have n2 : c ≠ p := fun z => by
    rw [z, h] at e2
    unfold LamX.CodeO at e2
    cases e2
    exact pl
  exact ⟨c, e1, by rw [upd_ne n2]; exact e2⟩

/-- what stood at the entry: P the part that is known to stay, E all of it, bor: what may be changed though it stood -/
structure Bs where
  P : Hp
  E : Hp
  bor : Addr → Prop
  T : List (Addr × Str)

/-- what may be changed: new, or borrowed (the first parameter) -/
def Mine (β : Bs) (i : Nat) (p : Addr) : OB → Prop
  | .ins _ dx _ => i = 0 ∧ β.bor p ∧ β.bor dx ∧ β.E dx = some (.own p) ∧ β.T = []
  | _ => (β.E p = none ∧ i ≠ 0) ∨ (i = 0 ∧ β.bor p)
def OB.pl : OB → Bool
  | .ins _ _ _ => false
  | _ => true
theorem Mine.new {β : Bs} {i : Nat} {p : Addr} (h : β.E p = none) (hi : i ≠ 0) : ∀ {b : OB}, b.pl = true → Mine β i p b
  | .lst _, _ => .inl ⟨h, hi⟩
  | .dic _, _ => .inl ⟨h, hi⟩
  | .lk _ _ _ _, _ => .inl ⟨h, hi⟩
  | .ins _ _ _, z => nomatch z
theorem Mine.at {β : Bs} {i : Nat} {p : Addr} : ∀ {b : OB}, Mine β i p b → β.E p = none ∨ (i = 0 ∧ β.bor p)
  | .lst _, h => h.imp And.left id
  | .dic _, h => h.imp And.left id
  | .lk _ _ _ _, h => h.imp And.left id
  | .ins _ _ _, h => .inr ⟨h.1, h.2.1⟩
/-- the slots, the part of the heap that stays (H0), the heap -/
structure Sat (C : Ct) (β : Bs) (σ : L2.St) (H0 H : Hp) (ρ : List Sl) : Prop where
  exb : Ex β.P H0
  ex : Ex H0 H
  out : ∀ a, β.E a ≠ none → β.P a = none → ¬ β.bor a → H0 a = none ∧ H a = β.E a
  bo : ∀ a, β.bor a → H a ≠ none ∧ H0 a = none
  bE : ∀ a, β.bor a → β.E a ≠ none
  len : σ.length = ρ.length
  va : ∀ (i : Nat) (b : B), ρ[i]? = some (.va b) → ∃ v, σ[i]? = some (some v) ∧ Den C H0 v b
  ow : ∀ (i : Nat) (b : OB), ρ[i]? = some (.ow b) → ∃ p : Addr, σ[i]? = some (some (.ref p)) ∧ H0 p = none ∧ OwnAt C H0 H p b ∧ Mine β i p b
  sep : ∀ (i j : Nat) (bi bj : OB) (p : Addr), ρ[i]? = some (.ow bi) → ρ[j]? = some (.ow bj) → σ[i]? = some (some (.ref p)) → σ[j]? = some (some (.ref p)) → i = j
  tb : LamX.Tabs β.T H ∧ ∀ q ∈ β.T, β.bor q.1
  tk : ∀ (i : Nat) (T : List (Addr × Str)), ρ[i]? = some (.tk T) → β.T = T

theorem set_tk {ρ : List Sl} {i j : Nat} {s : Sl} {T : List (Addr × Str)} (h : (ρ.set i s)[j]? = some (.tk T)) (hs : ∀ T, s ≠ .tk T) : ρ[j]? = some (.tk T) := by
  by_cases hj : i = j
  · subst hj
    have hl : i < ρ.length := by
      have := (List.getElem?_eq_some_iff.mp h).1
      rw [List.length_set] at this
      exact this
    rw [List.getElem?_set_self hl] at h
    exact absurd (Option.some.inj h) (hs T)
  · rw [List.getElem?_set_ne hj] at h
    exact h
/-- a step that changes nothing that is there -/
structure Stp (H0 H H0' H' : Hp) : Prop where
  e0 : Ex H0 H0'
  e1 : Ex H0' H'
  out : ∀ a, H a ≠ none → H0 a = none → H0' a = none ∧ H' a = H a
theorem Stp.refl {H0 H : Hp} (e : Ex H0 H) : Stp H0 H H0 H := ⟨Evl.Ex.refl _, e, fun _ _ h => ⟨h, rfl⟩⟩
theorem Stp.trans {H0 H H1 H1' H2 H2' : Hp} (a : Stp H0 H H1 H1') (b : Stp H1 H1' H2 H2') : Stp H0 H H2 H2' :=
  ⟨a.e0.trans b.e0, b.e1, fun x h1 h2 => by
    obtain ⟨q1, q2⟩ := a.out x h1 h2
    obtain ⟨r1, r2⟩ := b.out x (by rw [q2]; exact h1) q1
    exact ⟨r1, r2.trans q2⟩⟩
theorem Stp.ex {H0 H H0' H' : Hp} (e : Ex H0 H) (s : Stp H0 H H0' H') : Ex H H' := fun a o h => by
  cases q : H0 a with
  | none => rw [(s.out a (by rw [h]; exact fun z => nomatch z) q).2]; exact h
  | some u =>
    have r := e a u q
    rw [h] at r
    cases r
    exact s.e1 a _ (s.e0 a _ q)
theorem none_of_ex {H0 H : Hp} (e : Ex H0 H) {a : Addr} (h : H a = none) : H0 a = none := Evl.fresh_back e h
/-- a new object that stays -/
theorem Stp.new {H0 H : Hp} (e : Ex H0 H) {p : Addr} {o : HO} (h : H p = none) : Stp H0 H (upd H0 p o) (upd H p o) := by
  refine ⟨Evl.Ex.new (none_of_ex e h), fun a u q => ?_, fun a h1 h2 => ?_⟩
  · by_cases ha : a = p
    · rw [ha, upd_same] at q ⊢
      exact q
    · rw [upd_ne ha] at q ⊢
      exact e a u q
  · have ha : a ≠ p := fun z => h1 (by rw [z]; exact h)
    rw [upd_ne ha, upd_ne ha]
    exact ⟨h2, rfl⟩
/-- a new object that is not told to stay -/
theorem Stp.garb {H0 H : Hp} (e : Ex H0 H) {p : Addr} {o : HO} (h : H p = none) : Stp H0 H H0 (upd H p o) := by
  refine ⟨Evl.Ex.refl _, fun a u q => ?_, fun a h1 h2 => ?_⟩
  · rw [upd_ne (fun z => by rw [z, none_of_ex e h] at q; cases q)]
    exact e a u q
  · have ha : a ≠ p := fun z => h1 (by rw [z]; exact h)
    rw [upd_ne ha]
    exact ⟨h2, rfl⟩

section
variable {C : Ct} {β : Bs} {σ : L2.St} {H0 H H0' H' : Hp} {ρ : List Sl}
theorem Sat.stp (V : Sat C β σ H0 H ρ) (s : Stp H0 H H0' H') : Sat C β σ H0' H' ρ where
  exb := V.exb.trans s.e0
  ex := s.e1
  out := fun a h1 h2 h3 => by
    obtain ⟨q1, q2⟩ := V.out a h1 h2 h3
    obtain ⟨r1, r2⟩ := s.out a (by rw [q2]; exact h1) q1
    exact ⟨r1, r2.trans q2⟩
  bo := fun a h => by
    obtain ⟨q1, q2⟩ := V.bo a h
    obtain ⟨r1, r2⟩ := s.out a q1 q2
    exact ⟨by rw [r2]; exact q1, r1⟩
  bE := V.bE
  len := V.len
  va := fun i b h => by
    obtain ⟨v, h1, h2⟩ := V.va i b h
    exact ⟨v, h1, h2.mono s.e0⟩
  ow := fun i b h => by
    obtain ⟨p, h1, h2, h3, h4⟩ := V.ow i b h
    obtain ⟨r1, r2⟩ := s.out p h3.there h2
    exact ⟨p, h1, r1, h3.mono s.e0 s.out h2, h4⟩
  sep := V.sep
  tb := ⟨V.tb.1.ext (Stp.ex V.ex s), V.tb.2⟩
  tk := V.tk
/-- a slot gets a shared value -/
theorem Sat.set {i : Nat} {v : V} {b : B} (V : Sat C β σ H0 H ρ) (d : Den C H0 v b) : Sat C β (σ.set i (some v)) H0 H (ρ.set i (.va b)) where
  tb := V.tb
  tk := fun j T h => V.tk j T (set_tk h (fun _ z => nomatch z))
  exb := V.exb
  ex := V.ex
  out := V.out
  bo := V.bo
  bE := V.bE
  len := by rw [List.length_set, List.length_set, V.len]
  va := fun j c h => by
    by_cases hj : i = j
    · subst hj
      have hl : i < ρ.length := by
        have := (List.getElem?_eq_some_iff.mp h).1
        rw [List.length_set] at this
        exact this
      rw [List.getElem?_set_self hl] at h
      cases h
      exact ⟨v, List.getElem?_set_self (by rw [V.len]; exact hl), d⟩
    · rw [List.getElem?_set_ne hj] at h
      rw [List.getElem?_set_ne hj]
      exact V.va j c h
  ow := fun j c h => by
    by_cases hj : i = j
    · subst hj
      have hl : i < ρ.length := by
        have := (List.getElem?_eq_some_iff.mp h).1
        rw [List.length_set] at this
        exact this
      rw [List.getElem?_set_self hl] at h
      cases h
    · rw [List.getElem?_set_ne hj] at h
      rw [List.getElem?_set_ne hj]
      exact V.ow j c h
  sep := fun j k bj bk p h1 h2 h3 h4 => by
    have ne : ∀ (j : Nat) (bj : OB), (ρ.set i (.va b))[j]? = some (.ow bj) → i ≠ j := fun j bj h z => by
      subst z
      have hl : i < ρ.length := by
        have := (List.getElem?_eq_some_iff.mp h).1
        rw [List.length_set] at this
        exact this
      rw [List.getElem?_set_self hl] at h
      cases h
    have n1 := ne j bj h1
    have n2 := ne k bk h2
    rw [List.getElem?_set_ne n1] at h1 h3
    rw [List.getElem?_set_ne n2] at h2 h4
    exact V.sep j k bj bk p h1 h2 h3 h4
/-- a slot gets a new owned thing -/
theorem Sat.own {i : Nat} {p : Addr} {b : OB} (V : Sat C β σ H0 H ρ) (hp : H0 p = none) (o : OwnAt C H0 H p b) (hE : Mine β i p b)
    (hn : ∀ (j : Nat) (c : OB), ρ[j]? = some (.ow c) → σ[j]? ≠ some (some (.ref p))) : Sat C β (σ.set i (some (.ref p))) H0 H (ρ.set i (.ow b)) where
  tb := V.tb
  tk := fun j T h => V.tk j T (set_tk h (fun _ z => nomatch z))
  exb := V.exb
  ex := V.ex
  out := V.out
  bo := V.bo
  bE := V.bE
  len := by rw [List.length_set, List.length_set, V.len]
  va := fun j c h => by
    by_cases hj : i = j
    · subst hj
      have hl : i < ρ.length := by
        have := (List.getElem?_eq_some_iff.mp h).1
        rw [List.length_set] at this
        exact this
      rw [List.getElem?_set_self hl] at h
      cases h
    · rw [List.getElem?_set_ne hj] at h
      rw [List.getElem?_set_ne hj]
      exact V.va j c h
  ow := fun j c h => by
    by_cases hj : i = j
    · subst hj
      have hl : i < ρ.length := by
        have := (List.getElem?_eq_some_iff.mp h).1
        rw [List.length_set] at this
        exact this
      rw [List.getElem?_set_self hl] at h
      cases h
      exact ⟨p, List.getElem?_set_self (by rw [V.len]; exact hl), hp, o, hE⟩
    · rw [List.getElem?_set_ne hj] at h
      rw [List.getElem?_set_ne hj]
      exact V.ow j c h
  sep := fun j k bj bk q h1 h2 h3 h4 => by
    have lt : ∀ (j : Nat) (bj : OB), (ρ.set i (.ow b))[j]? = some (.ow bj) → j < ρ.length := fun j bj h => by
      have := (List.getElem?_eq_some_iff.mp h).1
      rw [List.length_set] at this
      exact this
    have l1 := lt j bj h1
    have l2 := lt k bk h2
    by_cases hj : i = j
    · by_cases hk : i = k
      · exact hj.symm.trans hk
      · subst hj
        rw [List.getElem?_set_self (by rw [V.len]; exact l1)] at h3
        cases h3
        rw [List.getElem?_set_ne hk] at h2 h4
        exact absurd h4 (hn k bk h2)
    · by_cases hk : i = k
      · subst hk
        rw [List.getElem?_set_self (by rw [V.len]; exact l2)] at h4
        cases h4
        rw [List.getElem?_set_ne hj] at h1 h3
        exact absurd h3 (hn j bj h1)
      · rw [List.getElem?_set_ne hj] at h1 h3
        rw [List.getElem?_set_ne hk] at h2 h4
        exact V.sep j k bj bk q h1 h2 h3 h4
/-- slots forgotten -/
inductive Weak : List Sl → List Sl → Prop
  | nil : Weak [] []
  | un (a : Sl) {as bs : List Sl} : Weak as bs → Weak (a :: as) (.un :: bs)
  | eq {a : Sl} {as bs : List Sl} : Weak as bs → Weak (a :: as) (a :: bs)
theorem Weak.len {ρ ρ' : List Sl} (h : Weak ρ ρ') : ρ.length = ρ'.length := by
  induction h with
  | nil => rfl
  | un a _ ih => exact congrArg Nat.succ ih
  | eq _ ih => exact congrArg Nat.succ ih
theorem Weak.get {ρ ρ' : List Sl} {i : Nat} {s : Sl} (h : Weak ρ ρ') (e : ρ'[i]? = some s) (n : s ≠ .un) : ρ[i]? = some s := by
  induction h generalizing i with
  | nil => simp at e
  | un a _ ih =>
    cases i with
    | zero => exact absurd (Option.some.inj e).symm n
    | succ i => exact ih e
  | eq _ ih =>
    cases i with
    | zero => exact e
    | succ i => exact ih e
theorem Weak.refl : ∀ (ρ : List Sl), Weak ρ ρ
  | [] => .nil
  | _ :: r => .eq (Weak.refl r)
theorem Sat.weak {ρ' : List Sl} (V : Sat C β σ H0 H ρ) (w : Weak ρ ρ') : Sat C β σ H0 H ρ' where
  tb := V.tb
  tk := fun j T h => V.tk j T (w.get h (fun z => nomatch z))
  exb := V.exb
  ex := V.ex
  out := V.out
  bo := V.bo
  bE := V.bE
  len := V.len.trans w.len
  va := fun i b h => V.va i b (w.get h (fun z => nomatch z))
  ow := fun i b h => V.ow i b (w.get h (fun z => nomatch z))
  sep := fun i j bi bj p h1 h2 => V.sep i j bi bj p (w.get h1 (fun z => nomatch z)) (w.get h2 (fun z => nomatch z))

/-- a place that is free in the heap is free everywhere -/
theorem Sat.fresh {p : Addr} (V : Sat C β σ H0 H ρ) (h : H p = none) : H0 p = none ∧ β.E p = none ∧ ∀ (j : Nat) (c : OB), ρ[j]? = some (.ow c) → σ[j]? ≠ some (some (.ref p)) := by
  refine ⟨none_of_ex V.ex h, ?_, fun j c hc z => ?_⟩
  · cases e : β.E p with
    | none => rfl
    | some u =>
      have e1 : β.E p ≠ none := by rw [e]; exact fun z => nomatch z
      by_cases hb : β.bor p
      · exact absurd h (V.bo p hb).1
      · cases q : β.P p with
        | none =>
          have r := (V.out p e1 q hb).2
          rw [h, e] at r
          cases r
        | some w =>
          have r := V.ex p w (V.exb p w q)
          rw [h] at r
          cases r
  · obtain ⟨q, h1, _, h3, _⟩ := V.ow j c hc
    rw [z] at h1
    cases h1
    exact h3.there h
/-- an owned thing is changed -/
theorem Sat.write {i : Nat} {p : Addr} {o : HO} {b b' : OB} (V : Sat C β σ H0 H ρ) (h : ρ[i]? = some (.ow b)) (hp : σ[i]? = some (some (.ref p))) (n : OwnAt C H0 (upd H p o) p b') {o0 : HO} (ho : H p = some o0) (pl : Plain o0) (hm : Mine β i p b → Mine β i p b') :
    Sat C β σ H0 (upd H p o) (ρ.set i (.ow b')) := by
  obtain ⟨q, h1, h2, h3, h4⟩ := V.ow i b h
  rw [hp] at h1
  cases h1
  have hl : i < ρ.length := (List.getElem?_eq_some_iff.mp h).1
  refine ⟨V.exb, fun a u e => ?_, fun a e1 e2 e3 => ?_, fun a e => ?_, V.bE, by rw [List.length_set]; exact V.len, fun j c e => ?_, fun j c e => ?_, fun j k bj bk q e1 e2 e3 e4 => ?_, ?_, fun j T h => V.tk j T (set_tk h (fun _ z => nomatch z))⟩
  · rw [upd_ne (fun z => by rw [z, h2] at e; cases e)]
    exact V.ex a u e
  · have ne : a ≠ p := fun z => by
      rcases h4.at with w | w
      · rw [z] at e1
        exact e1 w
      · rw [z] at e3
        exact e3 w.2
    rw [upd_ne ne]
    exact V.out a e1 e2 e3
  · obtain ⟨q1, q2⟩ := V.bo a e
    refine ⟨?_, q2⟩
    by_cases ha : a = p
    · rw [ha, upd_same]
      exact fun z => nomatch z
    · rw [upd_ne ha]
      exact q1
  · by_cases hj : i = j
    · subst hj
      rw [List.getElem?_set_self hl] at e
      cases e
    · rw [List.getElem?_set_ne hj] at e
      exact V.va j c e
  · by_cases hj : i = j
    · subst hj
      rw [List.getElem?_set_self hl] at e
      cases e
      exact ⟨p, hp, h2, n, hm h4⟩
    · rw [List.getElem?_set_ne hj] at e
      obtain ⟨r, r1, r2, r3, r4⟩ := V.ow j c e
      have ne : r ≠ p := fun z => hj (V.sep i j b c p h e hp (by rw [← z]; exact r1))
      exact ⟨r, r1, r2, r3.other ne ho pl, r4⟩
  · have g : ∀ (j : Nat) (c : OB), (ρ.set i (.ow b'))[j]? = some (.ow c) → ∃ c', ρ[j]? = some (.ow c') := fun j c e => by
      by_cases hj : i = j
      · exact ⟨b, by rw [← hj]; exact h⟩
      · rw [List.getElem?_set_ne hj] at e
        exact ⟨c, e⟩
    obtain ⟨c1, g1⟩ := g j bj e1
    obtain ⟨c2, g2⟩ := g k bk e2
    exact V.sep j k c1 c2 q g1 g2 e3 e4
  · exact ⟨tabs_upd V.tb.1 ho pl, V.tb.2⟩
/-- an owned list is given to all -/
theorem Sat.freeze {i : Nat} {bs : List B} (V : Sat C β σ H0 H ρ) (h : ρ[i]? = some (.ow (.lst bs))) (hb : i ≠ 0) :
    ∃ H0', Ex H0 H0' ∧ Sat C β σ H0' H (ρ.set i (.va (.lst bs))) := by
  obtain ⟨p, h1, h2, ⟨vs, h3, d⟩, h4⟩ := V.ow i _ h
  have hE : β.E p = none := h4.elim And.left fun z => absurd z.1 hb
  have hl : i < ρ.length := (List.getElem?_eq_some_iff.mp h).1
  have e0 : Ex H0 (upd H0 p (.lst vs)) := Evl.Ex.new h2
  refine ⟨upd H0 p (.lst vs), e0, ⟨V.exb.trans e0, fun a u e => ?_, fun a e1 e2 e3 => ?_, fun a e => ?_, V.bE, by rw [List.length_set]; exact V.len, fun j c e => ?_, fun j c e => ?_, fun j k bj bk q e1 e2 e3 e4 => ?_, V.tb, fun j T h => V.tk j T (set_tk h (fun _ z => nomatch z))⟩⟩
  · by_cases ha : a = p
    · rw [ha, upd_same] at e
      rw [ha, h3]
      exact e
    · rw [upd_ne ha] at e
      exact V.ex a u e
  · have ne : a ≠ p := fun z => e1 (by rw [z]; exact hE)
    rw [upd_ne ne]
    exact V.out a e1 e2 e3
  · have q := V.bo a e
    have ne : a ≠ p := fun z => V.bE a e (by rw [z]; exact hE)
    rw [upd_ne ne]
    exact q
  · by_cases hj : i = j
    · subst hj
      rw [List.getElem?_set_self hl] at e
      cases e
      exact ⟨.ref p, h1, .lst upd_same (d.mono e0)⟩
    · rw [List.getElem?_set_ne hj] at e
      obtain ⟨v, q1, q2⟩ := V.va j c e
      exact ⟨v, q1, q2.mono e0⟩
  · by_cases hj : i = j
    · subst hj
      rw [List.getElem?_set_self hl] at e
      cases e
    · rw [List.getElem?_set_ne hj] at e
      obtain ⟨r, r1, r2, r3, r4⟩ := V.ow j c e
      have ne : r ≠ p := fun z => hj (V.sep i j _ c p h e h1 (by rw [← z]; exact r1))
      exact ⟨r, r1, by rw [upd_ne ne]; exact r2, r3.frozen h3 h2 ne, r4⟩
  · have g : ∀ (j : Nat) (c : OB), (ρ.set i (.va (.lst bs)))[j]? = some (.ow c) → ρ[j]? = some (.ow c) := fun j c e => by
      by_cases hj : i = j
      · subst hj
        rw [List.getElem?_set_self hl] at e
        cases e
      · rw [List.getElem?_set_ne hj] at e
        exact e
    exact V.sep j k _ _ q (g j bj e1) (g k bk e2) e3 e4
end
end Q
end

/-! text LayB -/
section
set_option Elab.async false
set_option linter.all false
set_option maxRecDepth 100000
/-! readings of one fixed form; expressions -/
namespace Q
open PySem PySem.Spec PyProof.Rows L2

/-! ### readings -/
section
variable (C : Ct)
def tOf (ρ : List Sl) (b : B) (ρ' : List Sl) : TE := fun σ H Q => ∃ β H0, Sat C β σ H0 H ρ ∧ ∀ v H0' H', Ex H0 H0' → Sat C β σ H0' H' ρ' → Den C H0' v b → Q v H'
/-- a new owned thing -/
def fOf (ρ : List Sl) (o : OB) (ρ' : List Sl) : TE := fun σ H Q => ∃ β H0, Sat C β σ H0 H ρ ∧ ∀ (p : Addr) H0' H', Ex H0 H0' → Sat C β σ H0' H' ρ' → H0' p = none → OwnAt C H0' H' p o → β.E p = none →
  (∀ (j : Nat) (c : OB), ρ'[j]? = some (.ow c) → σ[j]? ≠ some (some (.ref p))) → Q (.ref p) H'
def aOf (ρ : List Sl) (bs : List B) (ρ' : List Sl) : TA := fun σ H Q => ∃ β H0, Sat C β σ H0 H ρ ∧ ∀ vs H0' H', Ex H0 H0' → Sat C β σ H0' H' ρ' → DenAll C H0' vs bs → Q vs H'
def cOf (ρ : List Sl) (k : Bool) (ρ' : List Sl) : TT := fun σ H Q => ∃ β H0, Sat C β σ H0 H ρ ∧ ∀ H0' H', Ex H0 H0' → Sat C β σ H0' H' ρ' → Q k H'
end
abbrev EB (C : Ct) (X : Cx) (e : Expr) (ρ : List Sl) (b : B) (ρ' : List Sl) : Prop := PE X e (tOf C ρ b ρ')
abbrev FB (C : Ct) (X : Cx) (e : Expr) (ρ : List Sl) (o : OB) (ρ' : List Sl) : Prop := PE X e (fOf C ρ o ρ')
abbrev AB (C : Ct) (X : Cx) (es : List Expr) (ρ : List Sl) (bs : List B) (ρ' : List Sl) : Prop := PA X es (aOf C ρ bs ρ')
abbrev CB (C : Ct) (X : Cx) (e : Expr) (ρ : List Sl) (k : Bool) (ρ' : List Sl) : Prop := PT X e (cOf C ρ k ρ')

section
variable {X : Cx} {C : Ct} {e a b : Expr} {es : List Expr} {ρ ρ1 ρ2 ρ3 : List Sl} {x y z : B} {xs ys : List B} {pos : Pos}
theorem pe_mono {t t' : TE} (h : PE X e t) (m : ∀ σ H Q, t' σ H Q → t σ H Q) : PE X e t' := ⟨fun pins s σ H Q I q => h.run pins s σ H Q I (m σ H Q q)⟩
theorem pa_mono {t t' : TA} (h : PA X es t) (m : ∀ σ H Q, t' σ H Q → t σ H Q) : PA X es t' := ⟨fun p pins s σ H Q I q => h.run p pins s σ H Q I (m σ H Q q)⟩
theorem pt_mono {t t' : TT} (h : PT X e t) (m : ∀ σ H Q, t' σ H Q → t σ H Q) : PT X e t' := ⟨fun pins s σ H Q I q => h.run pins s σ H Q I (m σ H Q q)⟩
theorem pw_mono {t t' : TT} (h : PW X e t) (m : ∀ σ H Q, t' σ H Q → t σ H Q) : PW X e t' := ⟨fun w pins s σ H Q I q => h.run w pins s σ H Q I (m σ H Q q)⟩

/-! ### names, constants -/
theorem e_var (i : Nat) {n : Str} {p : Pos} (hρ : ρ[i]? = some (.va x) := by rfl) (hN : X.N[i]? = some n := by rfl) (hv : Vis X.env.scope n := by first | exact Or.inl rfl | exact Or.inr (Or.inl rfl) | exact Or.inr (Or.inr rfl))
    (hd : (n == ("__debug__" : Str)) = false := by decide) (hcd : (n == ("__classdict__" : Str)) = false := by decide) : EB C X (.Name n p) ρ x ρ :=
  pe_mono (pe_var hN hv hd hcd) fun σ H Q ⟨β, H0, V, k⟩ => by
    obtain ⟨v, h1, h2⟩ := V.va i x hρ
    exact ⟨v, h1, k v H0 H (Evl.Ex.refl _) V h2⟩
theorem e_int {i : Int} {j : Nat} : EB C X (.Constant (.int i) j pos) ρ (.int i) ρ := pe_mono pe_int fun σ H Q ⟨β, H0, V, k⟩ => k _ H0 H (Evl.Ex.refl _) V (.int i)
theorem e_bl {i : Bool} {j : Nat} : EB C X (.Constant (.bool i) j pos) ρ (.bl i) ρ := pe_mono pe_bl fun σ H Q ⟨β, H0, V, k⟩ => k _ H0 H (Evl.Ex.refl _) V (.bl i)
theorem e_non {j : Nat} : EB C X (.Constant .none j pos) ρ .non ρ := pe_mono pe_non fun σ H Q ⟨β, H0, V, k⟩ => k _ H0 H (Evl.Ex.refl _) V .non
theorem e_str {i : Str} {j : Nat} : EB C X (.Constant (.str i) j pos) ρ (.str i) ρ := pe_mono pe_str fun σ H Q ⟨β, H0, V, k⟩ => k _ H0 H (Evl.Ex.refl _) V (.str i)
/-- a whole number of the module -/
theorem e_gint {n : Str} {i : Int} {t : Tok} {p : Pos} (hm : X.mg n = some (.int i t)) (hg : Gl X n := by rfl) (hd : (n == ("__debug__" : Str)) = false := by decide) : EB C X (.Name n p) ρ (.int i) ρ :=
  pe_mono (pe_glob (v := .int i) hg hm ⟨t, rfl⟩ hd) fun σ H Q ⟨β, H0, V, k⟩ => k _ H0 H (Evl.Ex.refl _) V (.int i)

/-! ### operators by values -/
/-- a two-place operator's wish is met -/
def Op2 (C : Ct) (r : R2) (x y z : B) : Prop := ∀ H0 H v u (Q : VK), Den C H0 v x → Den C H0 u y → Ex H0 H → (∀ w H0' H', Stp H0 H H0' H' → Den C H0' w z → Q w H') → r v u H Q
/-- .. a new list comes -/
def Op2F (C : Ct) (r : R2) (x y : B) (zs : List B) : Prop := ∀ H0 H v u (Q : VK), Den C H0 v x → Den C H0 u y → Ex H0 H → (∀ p ws, H p = none → DenAll C H0 ws zs → Q (.ref p) (upd H p (.lst ws))) → r v u H Q
theorem e_op {op : Operator} {r : R2} (ho : OpR X (binaryOp op) r) (ha : EB C X a ρ x ρ1) (hb : EB C X b ρ1 y ρ2) (hr : Op2 C r x y z) : EB C X (.BinOp a op b pos) ρ z ρ2 :=
  pe_mono (pe_op ho ha hb) fun σ H Q ⟨β, H0, V, k⟩ => ⟨β, H0, V, fun v H1 H1' e1 V1 d1 => ⟨β, H1, V1, fun u H2 H2' e2 V2 d2 =>
    hr H2 H2' v u Q (d1.mono e2) d2 V2.ex fun w H3 H3' s d3 => k w H3 H3' ((e1.trans e2).trans s.e0) (V2.stp s) d3⟩⟩
theorem e_cmp {op : CmpOp} {r : R2} (ho : OpR X (compareOp op) r) (ha : EB C X a ρ x ρ1) (hb : EB C X b ρ1 y ρ2) (hr : Op2 C r x y z) (hm : behindInMarks op b = false := by first | exact nomark _ | rfl) : EB C X (.Compare a [op] [b] pos) ρ z ρ2 :=
  pe_mono (pe_cmpR ho ha hb hm) fun σ H Q ⟨β, H0, V, k⟩ => ⟨β, H0, V, fun v H1 H1' e1 V1 d1 => ⟨β, H1, V1, fun u H2 H2' e2 V2 d2 =>
    hr H2 H2' v u Q (d1.mono e2) d2 V2.ex fun w H3 H3' s d3 => k w H3 H3' ((e1.trans e2).trans s.e0) (V2.stp s) d3⟩⟩
theorem c_cmp {op : CmpOp} {r : R2} {k : Bool} (ho : OpR X (compareOp op) r) (ha : EB C X a ρ x ρ1) (hb : EB C X b ρ1 y ρ2) (hr : Op2 C r x y (.bl k)) (hm : behindInMarks op b = false := by first | exact nomark _ | rfl) : CB C X (.Compare a [op] [b] pos) ρ k ρ2 :=
  pt_mono (pt_cmpR ho ha hb hm) fun σ H Q ⟨β, H0, V, q⟩ => ⟨β, H0, V, fun v H1 H1' e1 V1 d1 => ⟨β, H1, V1, fun u H2 H2' e2 V2 d2 =>
    hr H2 H2' v u _ (d1.mono e2) d2 V2.ex fun w H3 H3' s d3 => by
      cases d3
      exact ⟨k, rfl, q H3 H3' ((e1.trans e2).trans s.e0) (V2.stp s)⟩⟩⟩
/-- from a new list to an owned thing -/
theorem sat_new {β : Bs} {σ : L2.St} {H0 H : Hp} {p : Addr} {ws : List V} {zs : List B} (V : Sat C β σ H0 H ρ) (hp : H p = none) (d : DenAll C H0 ws zs) :
    Sat C β σ H0 (upd H p (.lst ws)) ρ ∧ H0 p = none ∧ OwnAt C H0 (upd H p (.lst ws)) p (.lst zs) ∧ β.E p = none ∧ ∀ (j : Nat) (c : OB), ρ[j]? = some (.ow c) → σ[j]? ≠ some (some (.ref p)) := by
  obtain ⟨f1, f2, f3⟩ := V.fresh hp
  exact ⟨V.stp (Stp.garb V.ex hp), f1, ⟨ws, upd_same, d⟩, f2, f3⟩
theorem f_op {op : Operator} {r : R2} (ho : OpR X (binaryOp op) r) (ha : EB C X a ρ x ρ1) (hb : EB C X b ρ1 y ρ2) (hr : Op2F C r x y ys) : FB C X (.BinOp a op b pos) ρ (.lst ys) ρ2 :=
  pe_mono (pe_op ho ha hb) fun σ H Q ⟨β, H0, V, k⟩ => ⟨β, H0, V, fun v H1 H1' e1 V1 d1 => ⟨β, H1, V1, fun u H2 H2' e2 V2 d2 =>
    hr H2 H2' v u Q (d1.mono e2) d2 V2.ex fun p ws hp d3 => by
      obtain ⟨s1, s2, s3, s4, s5⟩ := sat_new V2 hp d3
      exact k p H2 _ (e1.trans e2) s1 s2 s3 s4 s5⟩⟩
/-- a new list is shared -/
theorem e_of (h : FB C X e ρ (.lst xs) ρ1) : EB C X e ρ (.lst xs) ρ1 := pe_mono h fun σ H Q ⟨β, H0, V, k⟩ => ⟨β, H0, V, fun p H1 H1' e1 V1 f1 f2 f3 f4 => by
  obtain ⟨vs, h1, d⟩ := f2
  have n1 : Ex H1 (upd H1 p (.lst vs)) := Evl.Ex.new f1
  refine k _ (upd H1 p (.lst vs)) H1' (e1.trans n1) ⟨V1.exb.trans n1, fun a u q => ?_, fun a q1 q2 q3 => ?_, fun a q => ?_, V1.bE, V1.len, fun i b q => ?_, fun i b q => ?_, V1.sep, V1.tb, V1.tk⟩ (.lst upd_same (d.mono n1))
  · by_cases ha : a = p
    · rw [ha, upd_same] at q
      rw [ha, h1]
      exact q
    · rw [upd_ne ha] at q
      exact V1.ex a u q
  · have ne : a ≠ p := fun z => q1 (by rw [z]; exact f3)
    rw [upd_ne ne]
    exact V1.out a q1 q2 q3
  · have ne : a ≠ p := fun z => V1.bE a q (by rw [z]; exact f3)
    rw [upd_ne ne]
    exact V1.bo a q
  · obtain ⟨v, q1, q2⟩ := V1.va i b q
    exact ⟨v, q1, q2.mono n1⟩
  · obtain ⟨r, r1, r2, r3, r4⟩ := V1.ow i b q
    have ne : r ≠ p := fun z => f4 i b q (by rw [← z]; exact r1)
    exact ⟨r, r1, by rw [upd_ne ne]; exact r2, r3.frozen h1 f1 ne, r4⟩⟩

/-! the operators -/
theorem o_I0 {g : Int → Int → Int} {i j : Int} : Op2 C (rI0 fun i j => .int (g i j)) (.int i) (.int j) (.int (g i j)) := fun H0 H v u Q d1 d2 ex k => by
  cases d1; cases d2
  exact ⟨i, j, rfl, rfl, k _ H0 H (Stp.refl ex) (.int _)⟩
theorem o_I {P : Int → Int → Prop} {g : Int → Int → Int} {i j : Int} (h : P i j) : Op2 C (rI P fun i j => .int (g i j)) (.int i) (.int j) (.int (g i j)) := fun H0 H v u Q d1 d2 ex k => by
  cases d1; cases d2
  exact ⟨i, j, rfl, rfl, h, k _ H0 H (Stp.refl ex) (.int _)⟩
theorem o_B0 {g : Int → Int → Bool} {i j : Int} : Op2 C (rI0 fun i j => .bl (g i j)) (.int i) (.int j) (.bl (g i j)) := fun H0 H v u Q d1 d2 ex k => by
  cases d1; cases d2
  exact ⟨i, j, rfl, rfl, k _ H0 H (Stp.refl ex) (.bl _)⟩
/-- // by any divisor but 0, below 2 ^ 9000 -/
def CDivZ (_ j : Int) : Prop := j ≠ 0 ∧ j.natAbs.log2 < 9000
theorem op_fdivZ : OpR X (binaryOp .FloorDiv) (rI CDivZ fun i j => .int (i.fdiv j)) := opI fun _ _ _ _ _ _ _ hc q => floordiv_int hc.1 q (.inl (PyProof.noPylong_of_log2 hc.2))
theorem e_add {i j : Int} (ha : EB C X a ρ (.int i) ρ1) (hb : EB C X b ρ1 (.int j) ρ2) : EB C X (.BinOp a .Add b pos) ρ (.int (i + j)) ρ2 := e_op op_add ha hb o_I0
theorem e_sub {i j : Int} (ha : EB C X a ρ (.int i) ρ1) (hb : EB C X b ρ1 (.int j) ρ2) : EB C X (.BinOp a .Sub b pos) ρ (.int (i - j)) ρ2 := e_op op_sub ha hb o_I0
theorem e_mul {i j : Int} (ha : EB C X a ρ (.int i) ρ1) (hb : EB C X b ρ1 (.int j) ρ2) (hc : CMulX i j) : EB C X (.BinOp a .Mult b pos) ρ (.int (i * j)) ρ2 := e_op op_mulX ha hb (o_I hc)
theorem e_div {i j : Int} (ha : EB C X a ρ (.int i) ρ1) (hb : EB C X b ρ1 (.int j) ρ2) (hc : CDivZ i j) : EB C X (.BinOp a .FloorDiv b pos) ρ (.int (i.fdiv j)) ρ2 := e_op op_fdivZ ha hb (o_I hc)
theorem e_mod {i j : Int} (ha : EB C X a ρ (.int i) ρ1) (hb : EB C X b ρ1 (.int j) ρ2) (hc : j ≠ 0) : EB C X (.BinOp a .Mod b pos) ρ (.int (i.fmod j)) ρ2 := e_op op_modN ha hb (o_I hc)
theorem e_pow {i j : Int} (ha : EB C X a ρ (.int i) ρ1) (hb : EB C X b ρ1 (.int j) ρ2) (hc : CPow i j) : EB C X (.BinOp a .Pow b pos) ρ (.int (i ^ j.toNat)) ρ2 := e_op op_pow ha hb (o_I hc)
theorem e_neg {i : Int} (ha : EB C X a ρ (.int i) ρ1) : EB C X (.UnaryOp .USub a pos) ρ (.int (-i)) ρ1 :=
  pe_mono (pe_un un_neg ha) fun σ H Q ⟨β, H0, V, k⟩ => ⟨β, H0, V, fun v H1 H1' e1 V1 d1 => by
    cases d1
    exact ⟨i, rfl, k _ H1 H1' e1 V1 (.int _)⟩⟩
/-! comparisons of ints, as values and tests -/
theorem e_lt {i j : Int} (ha : EB C X a ρ (.int i) ρ1) (hb : EB C X b ρ1 (.int j) ρ2) : EB C X (.Compare a [.Lt] [b] pos) ρ (.bl (decide (i < j))) ρ2 := e_cmp op_lt ha hb (o_B0 (g := fun i j => decide (i < j))) (nomark _)
theorem c_lt {i j : Int} (ha : EB C X a ρ (.int i) ρ1) (hb : EB C X b ρ1 (.int j) ρ2) : CB C X (.Compare a [.Lt] [b] pos) ρ (decide (i < j)) ρ2 := c_cmp op_lt ha hb (o_B0 (g := fun i j => decide (i < j))) (nomark _)
theorem c_le {i j : Int} (ha : EB C X a ρ (.int i) ρ1) (hb : EB C X b ρ1 (.int j) ρ2) : CB C X (.Compare a [.LtE] [b] pos) ρ (decide (i ≤ j)) ρ2 := c_cmp op_le ha hb (o_B0 (g := fun i j => decide (i ≤ j))) (nomark _)
theorem c_gt {i j : Int} (ha : EB C X a ρ (.int i) ρ1) (hb : EB C X b ρ1 (.int j) ρ2) : CB C X (.Compare a [.Gt] [b] pos) ρ (decide (j < i)) ρ2 := c_cmp op_gt ha hb (o_B0 (g := fun i j => decide (j < i))) (nomark _)
theorem c_ge {i j : Int} (ha : EB C X a ρ (.int i) ρ1) (hb : EB C X b ρ1 (.int j) ρ2) : CB C X (.Compare a [.GtE] [b] pos) ρ (decide (j ≤ i)) ρ2 := c_cmp op_ge ha hb (o_B0 (g := fun i j => decide (j ≤ i))) (nomark _)
/-- flat values compared -/
def fl : B → Option V
  | .non => some .non
  | .bl b => some (.bl b)
  | .int i => some (.int i)
  | .str x => some (.str x)
  | _ => none
theorem fl_den {H : Hp} {v w : V} {b : B} (d : Den C H v b) (h : fl b = some w) : v = w := by
  cases d <;> first | exact Option.some.inj h | cases h
theorem o_eq {v w : V} (h1 : fl x = some v) (h2 : fl y = some w) (hs : scal v w = true) : Op2 C rEq x y (.bl (decide (v = w))) := fun H0 H v' w' Q d1 d2 ex k => by
  cases fl_den d1 h1
  cases fl_den d2 h2
  exact ⟨hs, k _ H0 H (Stp.refl ex) (.bl _)⟩
theorem o_ne {v w : V} (h1 : fl x = some v) (h2 : fl y = some w) (hs : scal v w = true) : Op2 C rNe x y (.bl (!decide (v = w))) := fun H0 H v' w' Q d1 d2 ex k => by
  cases fl_den d1 h1
  cases fl_den d2 h2
  exact ⟨hs, k _ H0 H (Stp.refl ex) (.bl _)⟩
theorem dI {i j : Int} : decide (V.int i = V.int j) = decide (i = j) := by
  by_cases h : i = j
  · rw [h, decide_eq_true rfl, decide_eq_true rfl]
  · rw [decide_eq_false h, decide_eq_false (fun z => h (V.int.inj z))]
theorem c_eq {i j : Int} (ha : EB C X a ρ (.int i) ρ1) (hb : EB C X b ρ1 (.int j) ρ2) : CB C X (.Compare a [.Eq] [b] pos) ρ (decide (i = j)) ρ2 := by
  rw [← dI]
  exact c_cmp op_eq ha hb (o_eq rfl rfl rfl) (nomark _)
theorem c_ne {i j : Int} (ha : EB C X a ρ (.int i) ρ1) (hb : EB C X b ρ1 (.int j) ρ2) : CB C X (.Compare a [.NotEq] [b] pos) ρ (!decide (i = j)) ρ2 := by
  rw [← dI]
  exact c_cmp op_ne ha hb (o_ne rfl rfl rfl) (nomark _)
theorem e_eq {i j : Int} (ha : EB C X a ρ (.int i) ρ1) (hb : EB C X b ρ1 (.int j) ρ2) : EB C X (.Compare a [.Eq] [b] pos) ρ (.bl (decide (i = j))) ρ2 := by
  rw [← dI]
  exact e_cmp op_eq ha hb (o_eq rfl rfl rfl) (nomark _)
theorem e_ne {i j : Int} (ha : EB C X a ρ (.int i) ρ1) (hb : EB C X b ρ1 (.int j) ρ2) : EB C X (.Compare a [.NotEq] [b] pos) ρ (.bl (!decide (i = j))) ρ2 := by
  rw [← dI]
  exact e_cmp op_ne ha hb (o_ne rfl rfl rfl) (nomark _)
def isNonB : B → Bool
  | .non => true
  | _ => false
theorem den_non {H : Hp} {v : V} {b : B} (d : Den C H v b) : decide (v = .non) = isNonB b := by
  cases d <;> first | rfl | exact decide_eq_false (fun z => nomatch z)
theorem c_isN {p : Pos} {j : Nat} (ha : EB C X a ρ x ρ1) : CB C X (.Compare a [.Is] [.Constant .none j p] pos) ρ (isNonB x) ρ1 := c_cmp op_isN ha e_non (fun H0 H v u Q d1 d2 ex k => by
  cases d2
  exact ⟨rfl, by rw [den_non d1]; exact k _ H0 H (Stp.refl ex) (.bl _)⟩) (nomark _)
theorem c_notN {p : Pos} {j : Nat} (ha : EB C X a ρ x ρ1) : CB C X (.Compare a [.IsNot] [.Constant .none j p] pos) ρ (!isNonB x) ρ1 := c_cmp op_notN ha e_non (fun H0 H v u Q d1 d2 ex k => by
  cases d2
  exact ⟨rfl, by rw [den_non d1]; exact k _ H0 H (Stp.refl ex) (.bl _)⟩) (nomark _)
theorem e_isN {p : Pos} {j : Nat} (ha : EB C X a ρ x ρ1) : EB C X (.Compare a [.Is] [.Constant .none j p] pos) ρ (.bl (isNonB x)) ρ1 := e_cmp op_isN ha e_non (fun H0 H v u Q d1 d2 ex k => by
  cases d2
  exact ⟨rfl, by rw [den_non d1]; exact k _ H0 H (Stp.refl ex) (.bl _)⟩) (nomark _)

/-! ### and, or, not, if -/
theorem c_val {k : Bool} (h : EB C X e ρ (.bl k) ρ1) (he : ∀ whole, isTrue e X.env whole = (do let v ← whole; standAt e.pos; holding [v] (truthy v)) := by intro _; rfl) : CB C X e ρ k ρ1 :=
  pt_mono (pt_val h he) fun σ H Q ⟨β, H0, V, q⟩ => ⟨β, H0, V, fun v H1 H1' e1 V1 d1 => by
    cases d1
    exact ⟨k, rfl, q H1 H1' e1 V1⟩⟩
abbrev WB (C : Ct) (X : Cx) (e : Expr) (ρ : List Sl) (k : Bool) (ρ' : List Sl) : Prop := PW X e (cOf C ρ k ρ')
theorem c_w {k : Bool} (h : WB C X e ρ k ρ1) : CB C X e ρ k ρ1 := h.pt
theorem w_and1 {k : Bool} (ha : CB C X a ρ k ρ1) : WB C X (.BoolOp .And [a] pos) ρ k ρ1 := pw_and1 ha
theorem w_or1 {k : Bool} (ha : CB C X a ρ k ρ1) : WB C X (.BoolOp .Or [a] pos) ρ k ρ1 := pw_or1 ha
theorem w_and {rest : List Expr} {k l : Bool} (ha : CB C X a ρ k ρ1) (hb : k = true → WB C X (.BoolOp .And (b :: rest) pos) ρ1 l ρ2) (hf : k = false → ρ1 = ρ2) : WB C X (.BoolOp .And (a :: b :: rest) pos) ρ (k && l) ρ2 := by
  cases k with
  | true => exact pw_mono (pw_and ha (hb rfl)) fun σ H Q ⟨β, H0, V, q⟩ => ⟨β, H0, V, fun H1 H1' e1 V1 => by
      refine iteT ?_
      exact ⟨β, H1, V1, fun H2 H2' e2 V2 => q H2 H2' (e1.trans e2) V2⟩⟩
  | false => exact pw_mono (pw_and ha (tB' := fun _ _ _ => False) ⟨fun _ _ _ _ _ _ _ z => z.elim⟩) fun σ H Q ⟨β, H0, V, q⟩ => ⟨β, H0, V, fun H1 H1' e1 V1 => by
      refine iteF ?_
      exact q H1 H1' e1 (by rw [← hf rfl]; exact V1)⟩
theorem w_or {rest : List Expr} {k l : Bool} (ha : CB C X a ρ k ρ1) (hb : k = false → WB C X (.BoolOp .Or (b :: rest) pos) ρ1 l ρ2) (hf : k = true → ρ1 = ρ2) : WB C X (.BoolOp .Or (a :: b :: rest) pos) ρ (k || l) ρ2 := by
  cases k with
  | false => exact pw_mono (pw_or ha (hb rfl)) fun σ H Q ⟨β, H0, V, q⟩ => ⟨β, H0, V, fun H1 H1' e1 V1 => by
      refine iteF ?_
      exact ⟨β, H1, V1, fun H2 H2' e2 V2 => q H2 H2' (e1.trans e2) V2⟩⟩
  | true => exact pw_mono (pw_or ha (tB' := fun _ _ _ => False) ⟨fun _ _ _ _ _ _ _ z => z.elim⟩) fun σ H Q ⟨β, H0, V, q⟩ => ⟨β, H0, V, fun H1 H1' e1 V1 => by
      refine iteT ?_
      exact q H1 H1' e1 (by rw [← hf rfl]; exact V1)⟩
theorem c_not {k : Bool} (ha : CB C X a ρ k ρ1) : CB C X (.UnaryOp .Not a pos) ρ (!k) ρ1 := pt_mono (pt_not ha) fun σ H Q ⟨β, H0, V, q⟩ => ⟨β, H0, V, fun H1 H1' e1 V1 => q H1 H1' e1 V1⟩
/-- as values -/
theorem e_one {op : BoolOp} (h : EB C X a ρ x ρ1) : EB C X (.BoolOp op [a] pos) ρ x ρ1 := pe_one h
theorem e_and {rest : List Expr} {k l : Bool} (ha : EB C X a ρ (.bl k) ρ1) (hb : k = true → EB C X (.BoolOp .And (b :: rest) pos) ρ1 (.bl l) ρ2) (hf : k = false → ρ1 = ρ2) : EB C X (.BoolOp .And (a :: b :: rest) pos) ρ (.bl (k && l)) ρ2 := by
  cases k with
  | true => exact pe_mono (pe_and ha (hb rfl)) fun σ H Q ⟨β, H0, V, q⟩ => ⟨β, H0, V, fun v H1 H1' e1 V1 d => by
      cases d
      refine ⟨true, rfl, ?_⟩
      refine iteT ?_
      exact ⟨β, H1, V1, fun u H2 H2' e2 V2 d2 => q u H2 H2' (e1.trans e2) V2 d2⟩⟩
  | false => exact pe_mono (pe_and ha (tb := fun _ _ _ => False) ⟨fun _ _ _ _ _ _ z => z.elim⟩) fun σ H Q ⟨β, H0, V, q⟩ => ⟨β, H0, V, fun v H1 H1' e1 V1 d => by
      cases d
      refine ⟨false, rfl, ?_⟩
      refine iteF ?_
      exact q _ H1 H1' e1 (by rw [← hf rfl]; exact V1) (.bl false)⟩
theorem e_or {rest : List Expr} {k l : Bool} (ha : EB C X a ρ (.bl k) ρ1) (hb : k = false → EB C X (.BoolOp .Or (b :: rest) pos) ρ1 (.bl l) ρ2) (hf : k = true → ρ1 = ρ2) : EB C X (.BoolOp .Or (a :: b :: rest) pos) ρ (.bl (k || l)) ρ2 := by
  cases k with
  | false => exact pe_mono (pe_or ha (hb rfl)) fun σ H Q ⟨β, H0, V, q⟩ => ⟨β, H0, V, fun v H1 H1' e1 V1 d => by
      cases d
      refine ⟨false, rfl, ?_⟩
      refine iteF ?_
      exact ⟨β, H1, V1, fun u H2 H2' e2 V2 d2 => q u H2 H2' (e1.trans e2) V2 d2⟩⟩
  | true => exact pe_mono (pe_or ha (tb := fun _ _ _ => False) ⟨fun _ _ _ _ _ _ z => z.elim⟩) fun σ H Q ⟨β, H0, V, q⟩ => ⟨β, H0, V, fun v H1 H1' e1 V1 d => by
      cases d
      refine ⟨true, rfl, ?_⟩
      refine iteT ?_
      exact q _ H1 H1' e1 (by rw [← hf rfl]; exact V1) (.bl true)⟩
theorem e_not {k : Bool} (ha : EB C X a ρ (.bl k) ρ1) : EB C X (.UnaryOp .Not a pos) ρ (.bl (!k)) ρ1 := pe_mono (pe_not ha) fun σ H Q ⟨β, H0, V, q⟩ => ⟨β, H0, V, fun v H1 H1' e1 V1 d => by
  cases d
  exact ⟨k, rfl, q _ H1 H1' e1 V1 (.bl _)⟩⟩
theorem e_if {c : Expr} {k : Bool} (hc : CB C X c ρ k ρ1) (h1 : k = true → EB C X a ρ1 x ρ2) (h2 : k = false → EB C X b ρ1 x ρ2) : EB C X (.IfExp c a b pos) ρ x ρ2 := by
  cases k with
  | true => exact pe_mono (pe_ifExp hc (h1 rfl) (tb := fun _ _ _ => False) ⟨fun _ _ _ _ _ _ z => z.elim⟩) fun σ H Q ⟨β, H0, V, q⟩ => ⟨β, H0, V, fun H1 H1' e1 V1 => by
      refine iteT ?_
      exact ⟨β, H1, V1, fun u H2 H2' e2 V2 d2 => q u H2 H2' (e1.trans e2) V2 d2⟩⟩
  | false => exact pe_mono (pe_ifExp hc (ta := fun _ _ _ => False) ⟨fun _ _ _ _ _ _ z => z.elim⟩ (h2 rfl)) fun σ H Q ⟨β, H0, V, q⟩ => ⟨β, H0, V, fun H1 H1' e1 V1 => by
      refine iteF ?_
      exact ⟨β, H1, V1, fun u H2 H2' e2 V2 d2 => q u H2 H2' (e1.trans e2) V2 d2⟩⟩

/-! ### arguments, displays -/
theorem a_nil : AB C X [] ρ [] ρ := pa_mono pa_nil fun σ H Q ⟨β, H0, V, k⟩ => k [] H0 H (Evl.Ex.refl _) V .nil
theorem a_cons (ha : EB C X e ρ x ρ1) (hr : AB C X es ρ1 xs ρ2) (hs : starEach (e :: es) X.env = (false, eval e X.env) :: starEach es X.env := by rfl) : AB C X (e :: es) ρ (x :: xs) ρ2 :=
  pa_mono (pa_cons ha hr hs) fun σ H Q ⟨β, H0, V, k⟩ => ⟨β, H0, V, fun v H1 H1' e1 V1 d1 => ⟨β, H1, V1, fun vs H2 H2' e2 V2 d2 => k _ H2 H2' (e1.trans e2) V2 (.cons (d1.mono e2) d2)⟩⟩
/-- *e, of a list -/
theorem a_star {p : Pos} (ha : EB C X e ρ (.lst ys) ρ1) (hr : AB C X es ρ1 xs ρ2) (hs : starEach (.Starred e p :: es) X.env = (true, eval e X.env) :: starEach es X.env := by rfl) : AB C X (.Starred e p :: es) ρ (ys ++ xs) ρ2 :=
  pa_mono (StX.pa_star ha hr hs) fun σ H Q ⟨β, H0, V, k⟩ => ⟨β, H0, V, fun v H1 H1' e1 V1 d1 => by
    cases d1 with
    | lst h r => exact ⟨_, _, rfl, .inr (.inl (.inl (V1.ex _ _ h))), β, H1, V1, fun vs H2 H2' e2 V2 d2 => k _ H2 H2' (e1.trans e2) V2 ((r.mono e2).append d2)⟩⟩
theorem f_lst (h : AB C X es ρ xs ρ1) (hl : xs.length ≤ sizeLine) : FB C X (.List es pos) ρ (.lst xs) ρ1 :=
  pe_mono (pe_lst h) fun σ H Q ⟨β, H0, V, k⟩ => ⟨β, H0, V, fun vs H1 H1' e1 V1 d1 => ⟨by rw [d1.len]; exact hl, fun p hp => by
    obtain ⟨s1, s2, s3, s4, s5⟩ := sat_new V1 hp d1
    exact k p H1 _ e1 s1 s2 s3 s4 s5⟩⟩
theorem e_lst (h : AB C X es ρ xs ρ1) (hl : xs.length ≤ sizeLine) : EB C X (.List es pos) ρ (.lst xs) ρ1 := e_of (f_lst h hl)
theorem e_tup {kt : Nat} (h : AB C X es ρ xs ρ1) (hl : xs.length ≤ sizeLine) : EB C X (.Tuple es kt pos) ρ (.tup xs) ρ1 :=
  pe_mono (pe_tup h) fun σ H Q ⟨β, H0, V, k⟩ => ⟨β, H0, V, fun vs H1 H1' e1 V1 d1 => ⟨by rw [d1.len]; exact hl, fun p hp => by
    have s := Stp.new (o := .tup vs) V1.ex hp
    exact k _ _ _ (e1.trans s.e0) (V1.stp s) (.tup upd_same (d1.mono s.e0))⟩⟩
end
end Q
end

/-! text LayC -/
section
set_option Elab.async false
set_option linter.all false
set_option maxRecDepth 100000
/-! sequences, calls, attributes -/
namespace Q
open PySem PySem.Spec PyProof.Rows L2
section
variable {X : Cx} {C : Ct} {e a b : Expr} {es : List Expr} {ρ ρ1 ρ2 ρ3 : List Sl} {x y z : B} {xs ys bs : List B} {pos : Pos}

/-! ### subscripts -/
theorem den_atI {H : Hp} {vs : List V} {bs : List B} {i : Int} {b : B} (d : DenAll C H vs bs) (h : atI bs i = some b) : ∃ v, atI vs i = some v ∧ Den C H v b := by
  unfold atI at h ⊢
  rw [d.len]
  cases q : ixN bs.length i with
  | none =>
    rw [q] at h
    cases h
  | some j =>
    rw [q] at h
    obtain ⟨v, h1, h2⟩ := d.get (i := j) (b := b) h
    exact ⟨v, h1, h2⟩
theorem o_ixL {i : Int} (h : atI xs i = some z) : Op2 C (rIxL X.K) (.lst xs) (.int i) z := fun H0 H v u Q d1 d2 ex k => by
  cases d2
  cases d1 with
  | lst hr da =>
    obtain ⟨w, h1, h2⟩ := den_atI da h
    exact ⟨_, _, i, w, rfl, rfl, .inl (.inl (ex _ _ hr)), h1, k w H0 H (Stp.refl ex) h2⟩
theorem o_ixT {i : Int} (h : atI xs i = some z) : Op2 C (rIxT X.K) (.tup xs) (.int i) z := fun H0 H v u Q d1 d2 ex k => by
  cases d2
  cases d1 with
  | tup hr da =>
    obtain ⟨w, h1, h2⟩ := den_atI da h
    exact ⟨_, _, i, w, rfl, rfl, .inl (.inl (ex _ _ hr)), h1, k w H0 H (Stp.refl ex) h2⟩
theorem e_ixG {r : R2} (hr : IxR X r) (ha : EB C X a ρ x ρ1) (hb : EB C X b ρ1 y ρ2) (ho : Op2 C r x y z) (hs : PlainIx b := by intro _ _; rfl) : EB C X (.Subscript a b pos) ρ z ρ2 :=
  pe_mono (pe_ix hr ha hb hs) fun σ H Q ⟨β, H0, V, k⟩ => ⟨β, H0, V, fun v H1 H1' e1 V1 d1 => ⟨β, H1, V1, fun u H2 H2' e2 V2 d2 =>
    ho H2 H2' v u Q (d1.mono e2) d2 V2.ex fun w H3 H3' s d3 => k w H3 H3' ((e1.trans e2).trans s.e0) (V2.stp s) d3⟩⟩
theorem e_ixL {i : Int} (ha : EB C X a ρ (.lst xs) ρ1) (hb : EB C X b ρ1 (.int i) ρ2) (h : atI xs i = some z) (hs : PlainIx b := by intro _ _; rfl) : EB C X (.Subscript a b pos) ρ z ρ2 := e_ixG ix_list ha hb (o_ixL h) hs
theorem e_ixT {i : Int} (ha : EB C X a ρ (.tup xs) ρ1) (hb : EB C X b ρ1 (.int i) ρ2) (h : atI xs i = some z) (hs : PlainIx b := by intro _ _; rfl) : EB C X (.Subscript a b pos) ρ z ρ2 := e_ixG ix_tup ha hb (o_ixT h) hs
/-- an owned list's item -/
theorem e_ixO (i : Nat) {n : Str} {p : Pos} {k : Int} (hρ : ρ[i]? = some (.ow (.lst xs)) := by rfl) (hb : EB C X b ρ (.int k) ρ) (h : atI xs k = some z) (hN : X.N[i]? = some n := by rfl)
    (hv : Vis X.env.scope n := by first | exact Or.inl rfl | exact Or.inr (Or.inl rfl) | exact Or.inr (Or.inr rfl)) (hs : PlainIx b := by intro _ _; rfl)
    (hd : (n == ("__debug__" : Str)) = false := by decide) (hcd : (n == ("__classdict__" : Str)) = false := by decide) : EB C X (.Subscript (.Name n p) b pos) ρ z ρ :=
  pe_mono (pe_ix ix_list (pe_var hN hv hd hcd) hb hs) fun σ H Q ⟨β, H0, V, q⟩ => by
    obtain ⟨p, h1, h2, ⟨vs, h3, d⟩, h4⟩ := V.ow i _ hρ
    refine ⟨_, h1, β, H0, V, fun u H2 H2' e2 V2 d2 => ?_⟩
    obtain ⟨p', k1, k2, ⟨vs', k3, d'⟩, k4⟩ := V2.ow i _ hρ
    rw [h1] at k1
    cases k1
    cases d2
    obtain ⟨w, w1, w2⟩ := den_atI d' h
    exact ⟨p, vs', k, w, rfl, rfl, .inl (.inl k3), w1, q w H2 H2' e2 V2 w2⟩

/-! ### slices -/
abbrev IB (C : Ct) (X : Cx) (e : Option Expr) (ρ : List Sl) (i : Option Int) : Prop := PO X e (fun σ H Q => ∃ β H0, Sat C β σ H0 H ρ ∧ ∀ H0' H', Ex H0 H0' → Sat C β σ H0' H' ρ → Q i H')
theorem i_none : IB C X none ρ none := ⟨fun pins s σ H Q I ⟨β, H0, V, k⟩ => po_none.run pins s σ H Q I (k H0 H (Evl.Ex.refl _) V)⟩
theorem i_some {i : Int} (h : EB C X e ρ (.int i) ρ) : IB C X (some e) ρ (some i) := ⟨fun pins s σ H Q I ⟨β, H0, V, k⟩ => (po_some h).run pins s σ H Q I ⟨β, H0, V, fun v H1 H1' e1 V1 d => by
  cases d
  exact ⟨i, rfl, k H1 H1' e1 V1⟩⟩⟩
/-- a cut of a list of anything -/
def cut {α : Type} (xs : List α) (lo hi : Option Int) : List α := (xs.drop (HT.sIx xs.length 0 lo)).take (HT.sIx xs.length xs.length hi - HT.sIx xs.length 0 lo)
theorem den_cut {H : Hp} {vs : List V} {bs : List B} (d : DenAll C H vs bs) (lo hi : Option Int) : DenAll C H (cutV vs lo hi) (cut bs lo hi) := by
  unfold cutV cut
  rw [d.len]
  exact (d.drop _).take _
theorem f_slL {lo hi : Option Expr} {i j : Option Int} {p2 : Pos} (he : EB C X e ρ (.lst xs) ρ) (hl : IB C X lo ρ i) (hh : IB C X hi ρ j) : FB C X (.Subscript e (.Slice lo hi none p2) pos) ρ (.lst (cut xs i j)) ρ :=
  pe_mono (pe_slice sl_list he hl hh) fun σ H Q ⟨β, H0, V, k⟩ => ⟨β, H0, V, fun v H1 H1' e1 V1 d1 => ⟨β, H1, V1, fun H2 H2' e2 V2 => ⟨β, H2, V2, fun H3 H3' e3 V3 => by
    have d := d1.mono (e2.trans e3)
    cases d with
    | lst hr da =>
      refine ⟨_, _, rfl, .inl (.inl (V3.ex _ _ hr)), fun p hp => ?_⟩
      obtain ⟨s1, s2, s3, s4, s5⟩ := sat_new V3 hp (den_cut da i j)
      exact k p H3 _ ((e1.trans e2).trans e3) s1 s2 s3 s4 s5⟩⟩⟩
theorem e_slT {lo hi : Option Expr} {i j : Option Int} {p2 : Pos} (he : EB C X e ρ (.tup xs) ρ) (hl : IB C X lo ρ i) (hh : IB C X hi ρ j) : EB C X (.Subscript e (.Slice lo hi none p2) pos) ρ (.tup (cut xs i j)) ρ :=
  pe_mono (pe_slice sl_tupA he hl hh) fun σ H Q ⟨β, H0, V, k⟩ => ⟨β, H0, V, fun v H1 H1' e1 V1 d1 => ⟨β, H1, V1, fun H2 H2' e2 V2 => ⟨β, H2, V2, fun H3 H3' e3 V3 => by
    have d := d1.mono (e2.trans e3)
    cases d with
    | @tup a ws bs hr da =>
      refine ⟨_, _, rfl, .inl (.inl (V3.ex _ _ hr)), fun ⟨z1, z2⟩ => ?_, fun _ p hp => ?_⟩
      · have e : cut xs i j = xs := by
          unfold cut
          rw [← da.len, z1, z2]
          simp [da.len]
        rw [e] at k
        exact k _ H3 H3' ((e1.trans e2).trans e3) V3 (.tup hr da)
      · have s := Stp.new (o := .tup (cutV ws i j)) V3.ex hp
        exact k _ _ _ (((e1.trans e2).trans e3).trans s.e0) (V3.stp s) (.tup upd_same ((den_cut da i j).mono s.e0))⟩⟩⟩

/-! ### + and * of sequences -/
theorem o_cat (hl : xs.length + ys.length ≤ sizeLine) : Op2F C rCat (.lst xs) (.lst ys) (xs ++ ys) := fun H0 H v u Q d1 d2 ex k => by
  cases d1 with
  | lst h1 r1 =>
    cases d2 with
    | lst h2 r2 => exact ⟨_, _, _, _, rfl, rfl, ex _ _ h1, ex _ _ h2, by rw [r1.len, r2.len]; exact hl, fun p hp => k p _ hp (r1.append r2)⟩
theorem f_cat (ha : EB C X a ρ (.lst xs) ρ1) (hb : EB C X b ρ1 (.lst ys) ρ2) (hl : xs.length + ys.length ≤ sizeLine) : FB C X (.BinOp a .Add b pos) ρ (.lst (xs ++ ys)) ρ2 := f_op op_cat ha hb (o_cat hl)
theorem den_rep {H : Hp} {vs : List V} {bs : List B} (d : DenAll C H vs bs) : ∀ k : Nat, DenAll C H (List.replicate k vs).flatten (List.replicate k bs).flatten
  | 0 => .nil
  | k + 1 => by
    rw [List.replicate_succ, List.replicate_succ, List.flatten_cons, List.flatten_cons]
    exact d.append (den_rep d k)
theorem o_rep {k : Int} (h1 : -(2 ^ 63) ≤ k) (h2 : k < 2 ^ 63) (hl : xs.length * k.toNat ≤ sizeLine) : Op2F C rRep (.lst xs) (.int k) (List.replicate k.toNat xs).flatten := fun H0 H v u Q d1 d2 ex q => by
  cases d2
  cases d1 with
  | lst e1 r1 => exact ⟨_, k, _, rfl, rfl, ex _ _ e1, h1, h2, by rw [r1.len]; exact hl, fun p hp => q p _ hp (den_rep r1 k.toNat)⟩
theorem f_rep {k : Int} (ha : EB C X a ρ (.lst xs) ρ1) (hb : EB C X b ρ1 (.int k) ρ2) (h1 : -(2 ^ 63) ≤ k) (h2 : k < 2 ^ 63) (hl : xs.length * k.toNat ≤ sizeLine) : FB C X (.BinOp a .Mult b pos) ρ (.lst (List.replicate k.toNat xs).flatten) ρ2 := f_op op_rep ha hb (o_rep h1 h2 hl)
theorem o_catT (hl : xs.length + ys.length ≤ sizeLine) : Op2 C (rCatA X.K) (.tup xs) (.tup ys) (.tup (xs ++ ys)) := fun H0 H v u Q d1 d2 ex k => by
  cases d1 with
  | @tup a1 us1 _ h1 r1 =>
    cases d2 with
    | @tup a2 us2 _ h2 r2 =>
      refine ⟨_, _, _, _, rfl, rfl, .inl (.inl (ex _ _ h1)), .inl (.inl (ex _ _ h2)), by rw [r1.len, r2.len]; exact hl, fun e => ?_, fun _ e => ?_, fun _ _ p hp => ?_⟩
      · subst e
        cases r1
        exact k _ H0 H (Stp.refl ex) (.tup h2 r2)
      · subst e
        cases r2
        rw [List.append_nil] at k
        exact k _ H0 H (Stp.refl ex) (.tup h1 r1)
      · have s := Stp.new (o := .tup (us1 ++ us2)) ex hp
        exact k _ _ _ s (.tup upd_same ((r1.append r2).mono s.e0))
theorem e_catT (ha : EB C X a ρ (.tup xs) ρ1) (hb : EB C X b ρ1 (.tup ys) ρ2) (hl : xs.length + ys.length ≤ sizeLine) : EB C X (.BinOp a .Add b pos) ρ (.tup (xs ++ ys)) ρ2 := e_op op_catA ha hb (o_catT hl)
theorem o_catS {s t : Str} (hl : s.length + t.length ≤ sizeLine) : Op2 C (fun x y H Q => ∃ i j, x = .str i ∧ y = .str j ∧ i.length + j.length ≤ sizeLine ∧ Q (.str (i ++ j)) H) (.str s) (.str t) (.str (s ++ t)) := fun H0 H v u Q d1 d2 ex k => by
  cases d1; cases d2
  exact ⟨s, t, rfl, rfl, hl, k _ H0 H (Stp.refl ex) (.str _)⟩
theorem e_catS {s t : Str} (ha : EB C X a ρ (.str s) ρ1) (hb : EB C X b ρ1 (.str t) ρ2) (hl : s.length + t.length ≤ sizeLine) : EB C X (.BinOp a .Add b pos) ρ (.str (s ++ t)) ρ2 := e_op op_add_str ha hb (o_catS hl)

/-! ### calls of built-ins -/
def Cl (C : Ct) (r : List V → Hp → VK → Prop) (bs : List B) (z : B) : Prop := ∀ H0 H vs (Q : VK), DenAll C H0 vs bs → Ex H0 H → (∀ w H0' H', Stp H0 H H0' H' → Den C H0' w z → Q w H') → r vs H Q
def ClF (C : Ct) (r : List V → Hp → VK → Prop) (bs : List B) (zs : List B) : Prop := ∀ H0 H vs (Q : VK), DenAll C H0 vs bs → Ex H0 H → (∀ p ws, H p = none → DenAll C H0 ws zs → Q (.ref p) (upd H p (.lst ws))) → r vs H Q
section
variable {n : Str} {p : Pos} {r : List V → Hp → VK → Prop} {id T : String}
theorem m_cl {t : TE} (ht : ∀ σ H Q, (∃ β H0, Sat C β σ H0 H ρ ∧ ∀ vs H0' H', Ex H0 H0' → Sat C β σ H0' H' ρ1 → DenAll C H0' vs bs → r vs H' Q) → t σ H Q) (hr : Cl C r bs z) : ∀ σ H Q, tOf C ρ z ρ1 σ H Q → t σ H Q := fun σ H Q ⟨β, H0, V, k⟩ => ht σ H Q ⟨β, H0, V, fun vs H1 H1' e1 V1 d1 =>
  hr H1 H1' vs Q d1 V1.ex fun w H2 H2' s d2 => k w H2 H2' (e1.trans s.e0) (V1.stp s) d2⟩
theorem m_clF {t : TE} (ht : ∀ σ H Q, (∃ β H0, Sat C β σ H0 H ρ ∧ ∀ vs H0' H', Ex H0 H0' → Sat C β σ H0' H' ρ1 → DenAll C H0' vs bs → r vs H' Q) → t σ H Q) (hr : ClF C r bs ys) : ∀ σ H Q, fOf C ρ (.lst ys) ρ1 σ H Q → t σ H Q := fun σ H Q ⟨β, H0, V, k⟩ => ht σ H Q ⟨β, H0, V, fun vs H1 H1' e1 V1 d1 =>
  hr H1 H1' vs Q d1 V1.ex fun q ws hq d2 => by
    obtain ⟨s1, s2, s3, s4, s5⟩ := sat_new V1 hq d2
    exact k q H1 _ e1 s1 s2 s3 s4 s5⟩
theorem e_callB (hc : CallR X (.builtin id) r) (hm : X.mg n = none) (hv : bootBuiltins n = some (.builtin id)) (ha : AB C X (e :: es) ρ bs ρ1) (hr : Cl C r bs z) (hg : Gl X n := by rfl) (hn : n ≠ "__name__" := by decide) (hdb : (n == ("__debug__" : Str)) = false := by decide)
    (he : starEach (e :: es) X.env = (false, eval e X.env) :: starEach es X.env := by rfl) (hpl : (backTo pos (starEach es X.env)).any (·.1) = false := by rfl) : EB C X (.Call (.Name n p) (e :: es) [] pos) ρ z ρ1 :=
  pe_mono (pe_callB hc hg hm hv ha hn hdb he hpl) (m_cl (fun σ H Q h => h) hr)
theorem f_callB (hc : CallR X (.builtin id) r) (hm : X.mg n = none) (hv : bootBuiltins n = some (.builtin id)) (ha : AB C X (e :: es) ρ bs ρ1) (hr : ClF C r bs ys) (hg : Gl X n := by rfl) (hn : n ≠ "__name__" := by decide) (hdb : (n == ("__debug__" : Str)) = false := by decide)
    (he : starEach (e :: es) X.env = (false, eval e X.env) :: starEach es X.env := by rfl) (hpl : (backTo pos (starEach es X.env)).any (·.1) = false := by rfl) : FB C X (.Call (.Name n p) (e :: es) [] pos) ρ (.lst ys) ρ1 :=
  pe_mono (pe_callB hc hg hm hv ha hn hdb he hpl) (m_clF (fun σ H Q h => h) hr)
theorem e_callTy (hc : CallR X (.type T) r) (hm : X.mg n = none) (hv : bootBuiltins n = some (.type T)) (ha : AB C X (e :: es) ρ bs ρ1) (hr : Cl C r bs z) (hg : Gl X n := by rfl) (hn : n ≠ "__name__" := by decide) (hdb : (n == ("__debug__" : Str)) = false := by decide)
    (he : starEach (e :: es) X.env = (false, eval e X.env) :: starEach es X.env := by rfl) (hpl : (backTo pos (starEach es X.env)).any (·.1) = false := by rfl) : EB C X (.Call (.Name n p) (e :: es) [] pos) ρ z ρ1 :=
  pe_mono (pe_callTy hc hg hm hv ha hn hdb he hpl) (m_cl (fun σ H Q h => h) hr)
theorem f_callTy (hc : CallR X (.type T) r) (hm : X.mg n = none) (hv : bootBuiltins n = some (.type T)) (ha : AB C X (e :: es) ρ bs ρ1) (hr : ClF C r bs ys) (hg : Gl X n := by rfl) (hn : n ≠ "__name__" := by decide) (hdb : (n == ("__debug__" : Str)) = false := by decide)
    (he : starEach (e :: es) X.env = (false, eval e X.env) :: starEach es X.env := by rfl) (hpl : (backTo pos (starEach es X.env)).any (·.1) = false := by rfl) : FB C X (.Call (.Name n p) (e :: es) [] pos) ρ (.lst ys) ρ1 :=
  pe_mono (pe_callTy hc hg hm hv ha hn hdb he hpl) (m_clF (fun σ H Q h => h) hr)
end
end
end Q
end

/-! text LayD -/
section
set_option Elab.async false
set_option linter.all false
set_option maxRecDepth 100000
/-! own defs, attributes, what is walked, comprehensions -/
namespace Q
open PySem PySem.Spec PyProof.Rows L2
section
variable {X : Cx} {C : Ct} {e a b : Expr} {es : List Expr} {ρ ρ1 ρ2 ρ3 : List Sl} {x y z : B} {xs ys bs : List B} {pos : Pos}

/-! ### promises, calls of own defs -/
/-- a pure def: it answers by R, all that is there stays -/
def spR (C : Ct) (R : List B → B → Prop) : Sp := fun vs H Q _ => ∃ H0 bs r, Ex H0 H ∧ DenAll C H0 vs bs ∧ R bs r ∧ ∀ v H0' H', Stp H0 H H0' H' → Den C H0' v r → Q v H'
/-- the module's def n -/
structure Dn (P : Program) (w : World) (K : PySem.W.Frag) (mg : Str → Option Value) (base : Heap) (n : Str) (k : Nat) (sp : Sp) : Prop where
  ex : ∃ f, mg n = some (.ref f) ∧ PySem.W.keepIn K (.ref f) = true ∧ FnR P w K mg base CX0 k f sp
theorem stp_den {H0 H H0' H' : Hp} {vs : List V} {bs : List B} (s : Stp H0 H H0' H') (d : DenAll C H0 vs bs) : DenAll C H0' vs bs := d.mono s.e0
theorem m_sp {R : List B → B → Prop} {E : XK} (hR : R bs z) {β : Bs} {σ : L2.St} {H0 H : Hp} {vs : List V} {Q : VK} (V : Sat C β σ H0 H ρ) (d : DenAll C H0 vs bs) (k : ∀ v H0' H', Ex H0 H0' → Sat C β σ H0' H' ρ → Den C H0' v z → Q v H') : spR C R vs H Q E :=
  ⟨H0, bs, z, V.ex, d, hR, fun v H0' H' s dz => k v H0' H' s.e0 (V.stp s) dz⟩
theorem e_call {n : Str} {p : Pos} {k : Nat} {R : List B → B → Prop} (D : Dn X.prog X.w X.K X.mg X.base n k (spR C R)) (hr : Room k X.A) (ha : AB C X (e :: es) ρ bs ρ1) (hR : R bs z) (hg : Gl X n := by rfl) (hdb : (n == ("__debug__" : Str)) = false := by decide)
    (he : starEach (e :: es) X.env = (false, eval e X.env) :: starEach es X.env := by rfl) (hpl : (backTo pos (starEach es X.env)).any (·.1) = false := by rfl) : EB C X (.Call (.Name n p) (e :: es) [] pos) ρ z ρ1 := by
  obtain ⟨f, hm, hk, F⟩ := D.ex
  refine ⟨fun pins s σ H Q I h => ?_⟩
  refine wpAny_Call_Name_kw (ld_glob I hg hm ?_ hdb)
  obtain ⟨β, H0, V, q⟩ := h
  refine PySem.W.callWith_K (h₀ := X.base) I.ok.mod.kin hk (thn (ha.run pos pins s σ H (fun vs H1 => spR C R vs H1 Q E0) I ⟨β, H0, V, fun vs H1 H1' e1 V1 d1 => ?_⟩) fun us s1 ⟨vs, H1, I1, r, q⟩ => ⟨I1.kIn, ?_⟩) he hpl
  · exact m_sp hR V1 d1 fun v H2 H2' e2 V2 d2 => q v H2 H2' (e1.trans e2) V2 d2
  · exact wpAny_call (run_fnR F hr pass0 I1 r q)
/-- o.m(e, ..), o of the class c -/
theorem e_meth {o : Expr} {m : Str} {apos : Pos} {k c : Nat} {g : Addr} {fs : List B} {R : List B → B → Prop} {pl : Sem Bool} (ho : EB C X o ρ (.ob c fs) ρ1) (hc : SlX.SCls X.K (C.cls c)) (hm : Meth X.K (C.cls c) m g) (F : FnR X.prog X.w X.K X.mg X.base CX0 k g (spR C R)) (hr : Room k X.A)
    (ha : AB C X (e :: es) ρ1 bs ρ2) (hR : R (.ob c fs :: bs) z) (hst : starEach (e :: es) X.env = (false, eval e X.env) :: starEach es X.env := by rfl) (hpl : (backTo pos (starEach es X.env)).any (·.1) = false := by rfl)
    (ht : eval (.Call (.Attribute o m apos) (e :: es) [] pos) X.env = (do
      let ov ← eval o X.env
      standAt apos.atName
      let (f, first) ← holding [ov] (getMethod ov m pl)
      callWith pos f first (backTo pos (starEach (e :: es) X.env)) (backToKw pos (keywordEach [] X.env))) := by rfl) : EB C X (.Call (.Attribute o m apos) (e :: es) [] pos) ρ z ρ2 :=
  pe_mono (SlX.pe_methSl (E := E0) ho hc hm F hr pass0 ha hst hpl ht) fun σ H Q ⟨β, H0, V, q⟩ => ⟨β, H0, V, fun v H1 H1' e1 V1 d1 => by
    have d1' := d1
    cases d1 with
    | @ob a dx c xs bs h1 h2 r => exact ⟨a, dx, _, rfl, .inr ⟨V1.ex _ _ h1, V1.ex _ _ h2⟩, β, H1, V1, fun vs H2 H2' e2 V2 d2 =>
        m_sp hR V2 (.cons (d1'.mono e2) d2) fun v H3 H3' e3 V3 d3 => q v H3 H3' ((e1.trans e2).trans e3) V3 d3⟩⟩
/-- the attribute f of the class c stands in its slot i -/
structure Sf (K : PySem.W.Frag) (C : Ct) (c : Nat) (f : Str) (i : Nat) : Prop where
  cl : SlX.SCls K (C.cls c)
  at_ : ∃ p, SlX.Slot1 K (C.cls c) f p i
theorem e_at {f : Str} {c i : Nat} {fs : List B} (T : Sf X.K C c f i) (he : EB C X e ρ (.ob c fs) ρ1) (h : fs[i]? = some x := by rfl) (hb : attributeBase e f X.env (eval e X.env) = eval e X.env := by rfl) : EB C X (.Attribute e f pos) ρ x ρ1 :=
  pe_mono (SlX.pe_sl he hb) fun σ H Q ⟨β, H0, V, k⟩ => ⟨β, H0, V, fun v H1 H1' e1 V1 d1 => by
    cases d1 with
    | @ob a dx c xs bs h1 h2 r =>
      obtain ⟨p, hp⟩ := T.at_
      obtain ⟨w, w1, w2⟩ := r.get h
      exact ⟨a, _, dx, p, xs.map some, i, w, rfl, .inr ⟨V1.ex _ _ h1, V1.ex _ _ h2⟩, T.cl, hp, by rw [List.getElem?_map, w1]; rfl, k w H1 H1' e1 V1 w2⟩⟩
/-- an __init__ of the class c: it fills the slots by R -/
def spI (C : Ct) (c : Nat) (R : List B → List B → Prop) : Sp := fun vs H Q _ => ∃ (x dx : Addr) (H0 Hc : Hp) (vs' : List V) (bs fs : List B), vs = .ref x :: vs' ∧ H = upd (upd Hc dx (.own x)) x (.ins (C.cls c) dx []) ∧ Hc x = none ∧ Hc dx = none ∧ dx ≠ x ∧
  Ex H0 Hc ∧ DenAll C H0 vs' bs ∧ R bs fs ∧ ∀ H0' H', Stp H0 Hc H0' H' → Den C H0' (.ref x) (.ob c fs) → Q .non H'
/-- the class n, its __init__ -/
structure Mn (P : Program) (w : World) (K : PySem.W.Frag) (mg : Str → Option Value) (base : Heap) (C : Ct) (n : Str) (c k : Nat) (sp : Sp) : Prop where
  mg_ : mg n = some (.ref (C.cls c))
  ex : ∃ f, Mk K (C.cls c) f ∧ FnR P w K mg base CX0 k f sp
theorem e_make {n : Str} {p : Pos} {c k : Nat} {fs : List B} {R : List B → List B → Prop} (D : Mn X.prog X.w X.K X.mg X.base C n c k (spI C c R)) (hr : Room (k + 1) X.A) (ha : AB C X (e :: es) ρ bs ρ1) (hR : R bs fs) (hg : Gl X n := by rfl) (hdb : (n == ("__debug__" : Str)) = false := by decide)
    (he : starEach (e :: es) X.env = (false, eval e X.env) :: starEach es X.env := by rfl) (hpl : (backTo pos (starEach es X.env)).any (·.1) = false := by rfl) : EB C X (.Call (.Name n p) (e :: es) [] pos) ρ (.ob c fs) ρ1 := by
  obtain ⟨f, M, F⟩ := D.ex
  refine pe_mono (StX.pe_makeR (E := E0) M F hr hg D.mg_ pass0 ha hdb he hpl) fun σ H Q ⟨β, H0, V, q⟩ => ⟨β, H0, V, fun vs H1 H1' e1 V1 d1 x dx hx hdx ne => ?_⟩
  exact ⟨x, dx, H1, H1', vs, bs, fs, rfl, rfl, hx, hdx, ne, V1.ex, d1, hR, fun H2 H2' s d => ⟨rfl, q _ H2 H2' (e1.trans s.e0) (V1.stp s) d⟩⟩

/-! ### what is walked -/
/-- J walks xs: each item is there, or comes new -/
structure Yl (C : Ct) (J : It) (xs : List B) (H0 : Hp) : Prop where
  go : ∀ i H, Ex H0 H → i < xs.length → J.go i H
  stop : ∀ H, Ex H0 H → J.stop xs.length H
  yld : ∀ i H v H' Hc, Ex H0 Hc → Ex Hc H → J.yld i H v H' → ∀ b, xs[i]? = some b → ∃ Hc', Stp Hc H Hc' H' ∧ Den C Hc' v b
def wOf (C : Ct) (ρ : List Sl) (xs : List B) (ρ' : List Sl) : TI := fun σ H R => ∃ β H0, Sat C β σ H0 H ρ ∧ ∀ J H0' H', Ex H0 H0' → Sat C β σ H0' H' ρ' → Yl C J xs H0' → R J H'
abbrev VB (C : Ct) (X : Cx) (tg iter : Expr) (ρ : List Sl) (xs : List B) (ρ' : List Sl) : Prop := PI X tg iter (wOf C ρ xs ρ')
theorem pi_mono {tg iter : Expr} {w w' : TI} (h : PI X tg iter w) (m : ∀ σ H R, w' σ H R → w σ H R) : PI X tg iter w' := ⟨fun pins s σ H R I q => h.run pins s σ H R I (m σ H R q)⟩
theorem yl_list {K : PySem.W.Frag} {a : Addr} {vs : List V} {H0 : Hp} (h : H0 a = some (.lst vs)) (d : DenAll C H0 vs xs) : Yl C (Itl K a) xs H0 where
  go := fun i H e hi => by
    have hl : i < vs.length := by rw [d.len]; exact hi
    exact ⟨vs, vs[i], .inl (.inl (e _ _ h)), List.getElem?_eq_getElem hl⟩
  stop := fun H e => ⟨vs, .inl (.inl (e _ _ h)), by rw [d.len]; exact Nat.le_refl _⟩
  yld := fun i H v H' Hc e1 e2 ⟨e3, k⟩ b hb => by
    subst e3
    obtain ⟨w, w1, w2⟩ := d.get hb
    have q := k vs (.inl (.inl (e2 _ _ (e1 _ _ h))))
    rw [w1] at q
    cases q
    exact ⟨Hc, Stp.refl e2, w2.mono e1⟩
theorem yl_tup {K : PySem.W.Frag} {a : Addr} {vs : List V} {H0 : Hp} (h : H0 a = some (.tup vs)) (d : DenAll C H0 vs xs) : Yl C (Itt K a) xs H0 where
  go := fun i H e hi => by
    have hl : i < vs.length := by rw [d.len]; exact hi
    exact ⟨vs, vs[i], .inl (.inl (e _ _ h)), List.getElem?_eq_getElem hl⟩
  stop := fun H e => ⟨vs, .inl (.inl (e _ _ h)), by rw [d.len]; exact Nat.le_refl _⟩
  yld := fun i H v H' Hc e1 e2 ⟨e3, k⟩ b hb => by
    subst e3
    obtain ⟨w, w1, w2⟩ := d.get hb
    have q := k vs (.inl (.inl (e2 _ _ (e1 _ _ h))))
    rw [w1] at q
    cases q
    exact ⟨Hc, Stp.refl e2, w2.mono e1⟩
/-- the whole numbers from lo on -/
def rngB (lo : Int) (n : Nat) : List B := (List.range n).map fun (i : Nat) => B.int (lo + (i : Int))
theorem yl_rng {lo : Int} {n : Nat} {H0 : Hp} : Yl C (Itr lo n) (rngB lo n) H0 where
  go := fun i H e hi => by
    have : i < n := by simpa [rngB] using hi
    exact this
  stop := fun H e => by
    show n ≤ (rngB lo n).length
    simp [rngB]
  yld := fun i H v H' Hc e1 e2 ⟨e3, k⟩ b hb => by
    subst e3 k
    have hi : i < n := by
      have := (List.getElem?_eq_some_iff.mp hb).1
      simpa [rngB] using this
    have : b = B.int (lo + (i : Int)) := by
      unfold rngB at hb
      rw [List.getElem?_map, List.getElem?_range hi] at hb
      exact (Option.some.inj hb).symm
    subst this
    exact ⟨Hc, Stp.refl e2, .int _⟩
theorem v_list {tg : Expr} (h : EB C X e ρ (.lst xs) ρ1) : VB C X tg e ρ xs ρ1 := pi_mono (pi_list h) fun σ H R ⟨β, H0, V, k⟩ => ⟨β, H0, V, fun v H1 H1' e1 V1 d1 => by
  cases d1 with
  | lst h1 r => exact ⟨_, rfl, ⟨_, .inl (.inl (V1.ex _ _ h1))⟩, k _ H1 H1' e1 V1 (yl_list h1 r)⟩⟩
theorem v_tup {tg : Expr} (h : EB C X e ρ (.tup xs) ρ1) : VB C X tg e ρ xs ρ1 := pi_mono (pi_tup h) fun σ H R ⟨β, H0, V, k⟩ => ⟨β, H0, V, fun v H1 H1' e1 V1 d1 => by
  cases d1 with
  | tup h1 r => exact ⟨_, rfl, ⟨_, .inl (.inl (V1.ex _ _ h1))⟩, k _ H1 H1' e1 V1 (yl_tup h1 r)⟩⟩
theorem v_rng1 {tg : Expr} {p : Pos} {n : Nat} (hm : X.mg "range" = none) (ha : AB C X [a] ρ [.int (n : Int)] ρ1) (hn : n < 2 ^ 62) (hg : Gl X "range" := by rfl) (hs : starEach [a] X.env = [(false, eval a X.env)] := by rfl) :
    VB C X tg (.Call (.Name "range" p) [a] [] pos) ρ (rngB 0 n) ρ1 := pi_mono (pi_range1 hg hm ha hs) fun σ H R ⟨β, H0, V, k⟩ => ⟨β, H0, V, fun vs H1 H1' e1 V1 d1 => by
  cases d1 with
  | cons d r =>
    cases d
    cases r
    refine ⟨(n : Int), rfl, by omega, by omega, ?_⟩
    rw [Int.toNat_natCast]
    exact k _ H1 H1' e1 V1 yl_rng⟩
theorem v_rng2 {tg : Expr} {p : Pos} {lo hi : Int} (hm : X.mg "range" = none) (ha : AB C X [a, b] ρ [.int lo, .int hi] ρ1) (h1 : -(2 ^ 62) ≤ lo ∧ lo < 2 ^ 62) (h2 : -(2 ^ 62) ≤ hi ∧ hi < 2 ^ 62) (hg : Gl X "range" := by rfl)
    (hs : starEach [a, b] X.env = [(false, eval a X.env), (false, eval b X.env)] := by rfl) (hs2 : starEach [b] X.env = [(false, eval b X.env)] := by rfl) :
    VB C X tg (.Call (.Name "range" p) [a, b] [] pos) ρ (rngB lo (hi - lo).toNat) ρ1 := pi_mono (pi_range2 hg hm ha hs hs2) fun σ H R ⟨β, H0, V, k⟩ => ⟨β, H0, V, fun vs H1 H1' e1 V1 d1 => by
  cases d1 with
  | cons d r =>
    cases d
    cases r with
    | cons d r =>
      cases d
      cases r
      exact ⟨lo, hi, rfl, ⟨h1.1, h1.2, h2.1, h2.2⟩, k _ H1 H1' e1 V1 yl_rng⟩⟩
end
end Q
end

/-! text LaySrc -/
section
set_option Elab.async false
set_option linter.all false
set_option maxRecDepth 100000
set_option maxHeartbeats 1000000
/-! zip and enumerate over lists and tuples in any mix -/
namespace QS
open PySem PySem.Spec PyProof.Rows L2

def SqA (K : PySem.W.Frag) (H : Hp) (k : Bool) (a : Addr) (xs : List V) : Prop := match k with
  | true => SqL K H a xs
  | false => SqT K H a xs
def ItS (h : Heap) (k : Bool) (it a : Addr) (i : Nat) : Prop := match k with
  | true => h.IsListIter it a i
  | false => h.IsTupleIter it a i
def SrcAt (h : Heap) (k : Bool) (a : Addr) (items : Array Value) : Prop := match k with
  | true => h.IsList a items
  | false => h.IsTuple a items
def itName (k : Bool) : String := match k with
  | true => "list_iterator"
  | false => "tuple_iterator"
abbrev itObj (k : Bool) (a : Addr) : Obj := { cls := .type (itName k), data := .fields #[.ref a, .int 0 0] }
theorem its_of {h : Heap} {k : Bool} {it a : Addr} (e : h.get? it = some (itObj k a)) : ItS h k it a 0 := by
  cases k with
  | true => exact ⟨_, e, rfl, rfl⟩
  | false => exact ⟨_, e, rfl, rfl⟩
theorem its_at {h h' : Heap} {k : Bool} {it a : Addr} {i : Nat} (x : ItS h k it a i) (q : ∀ o, h.get? it = some o → h'.get? it = some o) : ItS h' k it a i := by
  cases k with
  | true => exact Heap.IsListIter.at x q
  | false => exact Heap.IsTupleIter.at x q
theorem its_obj {h : Heap} {k : Bool} {it a : Addr} {i : Nat} (x : ItS h k it a i) : ∃ o, h.get? it = some o ∧ ∀ v, o.data ≠ .cell v := by
  cases k with
  | true =>
    obtain ⟨o, ho, hc, hd⟩ := x
    exact ⟨o, ho, fun v q => by rw [hd] at q; cases q⟩
  | false =>
    obtain ⟨o, ho, hc, hd⟩ := x
    exact ⟨o, ho, fun v q => by rw [hd] at q; cases q⟩
theorem begins_src (k : Bool) (a : Addr) (items : Array Value) : Begins (.ref a) (itObj k a) fun h => SrcAt h k a items := by
  cases k with
  | true => exact begins_list a items
  | false => exact begins_tuple a items
theorem draws_src {prog : Program} {w : World} {A : Around} (hh : A.handled = none) (k : Bool) (it a : Addr) (hne : a ≠ it) (items : Array Value) :
    Draws prog w A it [it, a] items.size (fun i v => items[i]? = some v) (fun i h => ItS h k it a i ∧ SrcAt h k a items) := by
  cases k with
  | true => exact Draws.list hh it a hne items
  | false => exact Draws.tuple hh it a hne items
section
variable {X : Cx} {pins : List (Addr × Obj)} {σ : L2.St} {H : Hp} {s : Shared} {k : Bool} {a : Addr} {xs ys : List V}
theorem src_get (I : Inv X pins σ H s) (h : SqA X.K H k a xs) : ∃ its : List Value, Vals xs its ∧ SrcAt s.heap k a its.toArray := by
  cases k with
  | true =>
    obtain ⟨its, r, p, _⟩ := I.list h
    exact ⟨its, r, p.isList⟩
  | false =>
    obtain ⟨its, r, p, _⟩ := I.tuple h
    exact ⟨its, r, p⟩
theorem src_inj (I : Inv X pins σ H s) (h : SqA X.K H k a xs) (h' : SqA X.K H k a ys) : xs = ys := by
  cases k with
  | true => exact I.list_inj h h'
  | false => exact I.tuple_inj h h'
theorem src_lt {h : Heap} {items : Array Value} (x : SrcAt h k a items) : a < h.objs.size := by
  cases k with
  | true =>
    obtain ⟨o, ho, _⟩ := x
    exact Heap.lt_size ho
  | false =>
    obtain ⟨o, ho, _⟩ := x
    exact Heap.lt_size ho
end

/-! ### zip -/
def Itz (K : PySem.W.Frag) (k : Bool) (a : Addr) (l : Bool) (b : Addr) : It :=
  ⟨fun i H => ∃ (xs ys : List V) (x y : V), SqA K H k a xs ∧ SqA K H l b ys ∧ xs[i]? = some x ∧ ys[i]? = some y,
    fun i H v H' => ∃ T x y, v = .ref T ∧ H T = none ∧ H' = upd H T (.tup [x, y]) ∧ (∀ xs, SqA K H k a xs → xs[i]? = some x) ∧ ∀ ys, SqA K H l b ys → ys[i]? = some y,
    fun i H => ∃ xs ys : List V, SqA K H k a xs ∧ SqA K H l b ys ∧ i ≤ xs.length ∧ i ≤ ys.length ∧ (i = xs.length ∨ i = ys.length)⟩
theorem turn_zip {P : Program} {w : World} {K : PySem.W.Frag} {elts : List Expr} {kk : Nat} {tpos : Pos} {k l : Bool} {a b z TI TO i1 i2 : Addr} (D : ZipSep2 z TI TO i1 i2 [i1, a] [i2, b]) (TIa : TI ≠ a) (TIb : TI ≠ b) (ne1 : a ≠ i1) (ne2 : b ≠ i2) :
    Turn P w K (.Tuple elts kk tpos) (Itz K k a l b) [z, TI, TO, i1, i2] z (fun i h => IsZip h z TI TO .none ∧ IsTupOf2 h TI (.ref i1) (.ref i2) ∧ (∃ x y, IsTupOf2 h TO x y) ∧ ItS h k i1 a i ∧ ItS h l i2 b i) where
  mem := by simp
  obj := fun i h st c hc => by
    obtain ⟨hz, hTI, ⟨x, y, hTO⟩, h1, h2⟩ := st
    have e' : c = z ∨ c = TI ∨ c = TO ∨ c = i1 ∨ c = i2 := by simpa using hc
    rcases e' with q | q | q | q | q
    · rw [q]; exact ⟨_, hz, fun v q => nomatch q⟩
    · rw [q]; exact ⟨_, hTI, fun v q => nomatch q⟩
    · rw [q]; exact ⟨_, hTO, fun v q => nomatch q⟩
    · rw [q]; exact its_obj h1
    · rw [q]; exact its_obj h2
  keep := fun i h h' st q => by
    obtain ⟨hz, hTI, ⟨x, y, hTO⟩, h1, h2⟩ := st
    exact ⟨q z (by simp) _ hz, q TI (by simp) _ hTI, ⟨x, y, q TO (by simp) _ hTO⟩, its_at h1 fun o e => q i1 (by simp) o e, its_at h2 fun o e => q i2 (by simp) o e⟩
  item := by
    intro X hP hw hK hc i pins s σ H E I hf st hg
    subst hP hw hK
    obtain ⟨hz, hTI, ⟨x0, y0, hTO⟩, h1, h2⟩ := st
    obtain ⟨xs, ys, x, y, hqx, hqy, hx, hy⟩ := hg
    obtain ⟨its, rv, p⟩ := src_get I hqx
    obtain ⟨its2, rv2, p2⟩ := src_get I hqy
    obtain ⟨u, hu, ru⟩ := rv.get hx
    obtain ⟨u2, hu2, ru2⟩ := rv2.get hy
    have hh := I.ok.hd hc
    have hzl : z < s.heap.objs.size := Heap.lt_size hz
    have lt1 : i < its.toArray.size := by
      have := (List.getElem?_eq_some_iff.mp hu).1
      simpa using this
    have lt2 : i < its2.toArray.size := by
      have := (List.getElem?_eq_some_iff.mp hu2).1
      simpa using this
    refine wpAny_pyNext_zipD2_item (i := i) D (draws_src (A := X.A.in1) hh k i1 a ne1 its.toArray) (draws_src (A := X.A.in1) hh l i2 b ne2 its2.toArray) hz hTI hTO ⟨h1, p⟩ ⟨h2, p2⟩ lt1 lt2 fun w1 w2 h' tk q1 q2 z' TO' st1 st2 hT hsz hk => ?_
    have eu : u = w1 := by
      have : its.toArray[i]? = some u := by simpa using hu
      rw [q1] at this
      exact (Option.some.inj this).symm
    have eu2 : u2 = w2 := by
      have : its2.toArray[i]? = some u2 := by simpa using hu2
      rw [q2] at this
      exact (Option.some.inj this).symm
    subst eu eu2
    refine ⟨_, rfl, wpAny_letOwnedTupleGo_zip (s := { s with heap := h', toks := tk }) z' fun h'' z'' sb => ?_⟩
    have hT2 : h''.get? s.heap.objs.size = some { cls := .type "tuple", data := .seq #[u, u2] } := (sb.2 _ (Nat.ne_of_gt hzl)).trans hT
    have new : ObjOk X.prog X.w (upd H s.heap.objs.size (.tup [x, y])) h'' s.heap.objs.size (.tup [x, y]) :=
      ⟨by show 2 ≤ sizeLine; decide, [u, u2], .cons ru (.cons ru2 .nil), ⟨_, hT2, rfl, _, rfl⟩⟩
    have I1 : Inv X pins σ (upd H s.heap.objs.size (.tup [x, y])) { s with heap := h'', toks := tk } :=
      I.turnedNew (t' := tk) (ch := [z, TI, TO, i1, i2]) (fun c o hb q => (sb.2 c (fun q' => hb (by simp [q']))).trans (hk c o (fun q' => hb (by simp [q'])) (fun q' => hb (by simp [q'])) (fun q' => hb (by simp [q'])) (fun q' => hb (by simp [q'])) q)) hf (Nat.le_refl _) new
    refine ⟨.ref s.heap.objs.size, _, I1, rfl, ⟨_, x, y, rfl, I.hok.fresh (Nat.le_refl _), rfl, fun l' hl => by rw [src_inj I hl hqx]; exact hx, fun l' hl => by rw [src_inj I hl hqy]; exact hy⟩, ⟨z'', ?_, ⟨u, u2, ?_⟩, ?_, ?_⟩, fun c hcm => ?_⟩
    · exact (sb.2 _ D.TIz).trans (hk _ _ D.TIz D.TITO D.TIi1 D.TIi2 hTI)
    · exact (sb.2 _ D.TOz).trans TO'
    · exact its_at st1.1 fun o q => (sb.2 _ D.zi1.symm).trans q
    · exact its_at st2.1 fun o q => (sb.2 _ D.zi2.symm).trans q
    · have hlt : c < s.heap.objs.size := by
        have e' : c = z ∨ c = TI ∨ c = TO ∨ c = i1 ∨ c = i2 := by simpa using hcm
        rcases e' with q | q | q | q | q
        · rw [q]; exact hzl
        · rw [q]; exact Heap.lt_size hTI
        · rw [q]; exact Heap.lt_size hTO
        · rw [q]; obtain ⟨_, e1, _⟩ := its_obj h1; exact Heap.lt_size e1
        · rw [q]; obtain ⟨_, e2, _⟩ := its_obj h2; exact Heap.lt_size e2
      rw [upd_ne (Nat.ne_of_lt hlt)]
      exact (hf c hcm).1
  done := by
    intro X hP hw hK hc i pins s σ H E I hf st hg
    subst hP hw hK
    obtain ⟨hz, hTI, ⟨x0, y0, hTO⟩, h1, h2⟩ := st
    obtain ⟨xs, ys, hqx, hqy, le1, le2, hend⟩ := hg
    obtain ⟨its, rv, p⟩ := src_get I hqx
    obtain ⟨its2, rv2, p2⟩ := src_get I hqy
    have hh := I.ok.hd hc
    have l1 := rv.length
    have l2 := rv2.length
    refine wpAny_pyNext_zipD2_end (i := i) D (draws_src (A := X.A.in1) hh k i1 a ne1 its.toArray) (draws_src (A := X.A.in1) hh l i2 b ne2 its2.toArray) hz hTI hTO ⟨h1, p⟩ ⟨h2, p2⟩ (by simp; omega) (by simp; omega) (by simp; omega) fun h' tk hk => ⟨rfl, I.turnedL (t' := tk) (ch := [z, TI, TO, i1, i2]) (fun c o hb q =>
      hk c o (fun q' => hb (by simp [q'])) (fun q' => hb (by simp [q'])) (fun q' => hb (by simp [q'])) (fun q' => hb (by simp [q'])) q) hf⟩
  self := fun A i s Q E st h => wpAny_pyIter_zip st.1 h
def iZip (K : PySem.W.Frag) (ta : TA) : TI := fun σ H R => ta σ H fun vs H1 => ∃ k l a b xs ys, vs = [.ref a, .ref b] ∧ SqA K H1 k a xs ∧ SqA K H1 l b ys ∧ R (Itz K k a l b) H1
theorem pi_zip {X : Cx} {e e2 : Expr} {ta : TA} {p pos tpos : Pos} {elts : List Expr} {kk : Nat} (hg : Gl X "zip") (hm : X.mg "zip" = none) (ha : PA X [e, e2] ta)
    (hs : starEach [e, e2] X.env = (false, eval e X.env) :: starEach [e2] X.env := by rfl) (hpl : (backTo pos (starEach [e2] X.env)).any (·.1) = false := by rfl) :
    PI X (.Tuple elts kk tpos) (.Call (.Name "zip" p) [e, e2] [] pos) (iZip X.K ta) := by
  refine ⟨fun pins s σ H R I h => ?_⟩
  refine Call_ (ld_blt I hg hm PyProof.Rows.boot_zip (PyProof.Rows.callWith_type1 (thn (ha.run pos pins s σ H _ I h) fun us s1 ⟨vs, H1, I1, r1, q1⟩ => ?_) hs hpl))
  obtain ⟨k, l, a, b, xs, ys, ex, hqx, hqy, q⟩ := q1
  subst ex
  cases r1 with
  | cons r rr =>
    cases rr with
    | cons r' rr =>
      cases rr
      cases r
      cases r'
      have fresh5 : ∀ c, c ∈ [s1.heap.objs.size + 4, s1.heap.objs.size + 2, s1.heap.objs.size + 3, s1.heap.objs.size, s1.heap.objs.size + 1] → FpOk X pins H1 c := fun c hcm => by
        have e' : c = s1.heap.objs.size + 4 ∨ c = s1.heap.objs.size + 2 ∨ c = s1.heap.objs.size + 3 ∨ c = s1.heap.objs.size ∨ c = s1.heap.objs.size + 1 := by simpa using hcm
        have hle : s1.heap.objs.size ≤ c := by
          rcases e' with z | z | z | z | z
          · rw [z]; exact Nat.le_add_right _ _
          · rw [z]; exact Nat.le_add_right _ _
          · rw [z]; exact Nat.le_add_right _ _
          · rw [z]; exact Nat.le_refl _
          · rw [z]; exact Nat.le_add_right _ _
        exact I1.fpOk hle (I1.hok.fresh hle)
      obtain ⟨its, rv, p1⟩ := src_get I1 hqx
      obtain ⟨its2, rv2, p2⟩ := src_get I1 hqy
      have la := src_lt p1
      have lb := src_lt p2
      refine zip_begins2 (begins_src k a its.toArray) (begins_src l b its2.toArray) p1 p2 fun h' hz hTI hTO h1 h2 hsz hk => wpAny_pyIter_zip hz ?_
      have I2 : Inv X pins σ H1 { s1 with heap := h' } := I1.kept (t' := s1.toks) hk
      have na : s1.heap.objs.size + 2 ≠ a := Nat.ne_of_gt (Nat.lt_of_lt_of_le la (Nat.le_add_right _ _))
      have nb : s1.heap.objs.size + 2 ≠ b := Nat.ne_of_gt (Nat.lt_of_lt_of_le lb (Nat.le_add_right _ _))
      exact ⟨s1.heap.objs.size + 4, [s1.heap.objs.size + 4, s1.heap.objs.size + 2, s1.heap.objs.size + 3, s1.heap.objs.size, s1.heap.objs.size + 1], _, _, H1, rfl, I2,
        turn_zip (zip_sep2 (fp1 := [a]) (fp2 := [b]) (fun c hc => by rw [List.mem_singleton.mp hc]; exact la) (fun c hc => by rw [List.mem_singleton.mp hc]; exact lb)) na nb (Nat.ne_of_lt la) (Nat.ne_of_lt (Nat.lt_of_lt_of_le lb (Nat.le_add_right _ _))), ⟨hz, hTI, ⟨_, _, hTO⟩, its_of h1, its_of h2⟩, fresh5, q⟩

/-! ### enumerate -/
def Ite (K : PySem.W.Frag) (k : Bool) (a : Addr) : It :=
  ⟨fun i H => ∃ (xs : List V) (x : V), SqA K H k a xs ∧ xs[i]? = some x, fun i H v H' => ∃ T x, v = .ref T ∧ H T = none ∧ H' = upd H T (.tup [.int (i : Nat), x]) ∧ ∀ xs, SqA K H k a xs → xs[i]? = some x, fun i H => ∃ xs : List V, SqA K H k a xs ∧ xs.length = i⟩
theorem turn_enum {P : Program} {w : World} {K : PySem.W.Frag} {elts : List Expr} {kk : Nat} {tpos : Pos} {k : Bool} {a e it : Addr} (ea : e ≠ a) (ai : a ≠ it) (hne : e ≠ it) :
    Turn P w K (.Tuple elts kk tpos) (Ite K k a) [e, it] e (fun i h => (∃ old, IsEnum h e it ((i : Nat) : Int) old) ∧ ItS h k it a i) where
  mem := by simp
  obj := fun i h st b hb => by
    obtain ⟨⟨old, he⟩, h1⟩ := st
    have e' : b = e ∨ b = it := by simpa using hb
    rcases e' with z | z
    · rw [z]; exact ⟨_, he, fun v q => nomatch q⟩
    · rw [z]; exact its_obj h1
  keep := fun i h h' st k => let ⟨⟨old, he⟩, hi⟩ := st; ⟨⟨old, k e (by simp) _ he⟩, its_at hi fun o q => k it (by simp) o q⟩
  item := by
    intro X hP hw hK hc i pins s σ H E I hf st hg
    subst hP hw hK
    obtain ⟨⟨old, he⟩, hit⟩ := st
    obtain ⟨xs, x, hq, hx⟩ := hg
    obtain ⟨its, rv, p⟩ := src_get I hq
    obtain ⟨u, hu, ru⟩ := rv.get hx
    have hh := I.ok.hd hc
    have hel : e < s.heap.objs.size := Heap.lt_size he
    have hil : it < s.heap.objs.size := by obtain ⟨_, q, _⟩ := its_obj hit; exact Heap.lt_size q
    have lt1 : i < its.toArray.size := by
      have := (List.getElem?_eq_some_iff.mp hu).1
      simpa using this
    refine wpAny_pyNext_enum_itemD (i := i) (draws_src (A := X.A.in1) hh k it a ai its.toArray) he ⟨hit, p⟩ lt1 hne (by simp [hne, ea]) fun w1 h' tk q1 ho st1 hT hsz hk => ?_
    have eu : u = w1 := by
      have : its.toArray[i]? = some u := by simpa using hu
      rw [q1] at this
      exact (Option.some.inj this).symm
    subst eu
    refine ⟨_, rfl, wpAny_letOwnedTupleGo_enum (s := { s with heap := h', toks := tk + 1 }) ho fun h'' he' sb => ?_⟩
    have hT2 : h''.get? s.heap.objs.size = some { cls := .type "tuple", data := .seq #[.int i tk, u] } := (sb.2 _ (Nat.ne_of_gt hel)).trans hT
    have new : ObjOk X.prog X.w (upd H s.heap.objs.size (.tup [.int (i : Nat), x])) h'' s.heap.objs.size (.tup [.int (i : Nat), x]) :=
      ⟨by show 2 ≤ sizeLine; decide, [.int i tk, u], .cons ⟨_, rfl⟩ (.cons ru .nil), ⟨_, hT2, rfl, _, rfl⟩⟩
    have I1 : Inv X pins σ (upd H s.heap.objs.size (.tup [.int (i : Nat), x])) { s with heap := h'', toks := tk + 1 } :=
      I.turnedNew (ch := [e, it]) (fun b ob hb q => (sb.2 b (fun z => hb (by simp [z]))).trans (hk b ob (fun z => hb (by simp [z])) (fun z => hb (by simp [z])) q)) hf (Nat.le_refl _) new
    refine ⟨.ref s.heap.objs.size, _, I1, rfl, ⟨_, x, rfl, I.hok.fresh (Nat.le_refl _), rfl, fun ys hy => by rw [src_inj I hy hq]; exact hx⟩, ⟨⟨u, ?_⟩, its_at st1.1 fun o q => (sb.2 it (Ne.symm hne)).trans q⟩, fun b hb => ?_⟩
    · have e1 : ((i + 1 : Nat) : Int) = (i : Int) + 1 := by omega
      rw [e1]; exact he'
    · have hb' : b < s.heap.objs.size := by
        have e' : b = e ∨ b = it := by simpa using hb
        rcases e' with z | z
        · rw [z]; exact hel
        · rw [z]; exact hil
      rw [upd_ne (Nat.ne_of_lt hb')]
      exact (hf b hb).1
  done := by
    intro X hP hw hK hc i pins s σ H E I hf st hg
    subst hP hw hK
    obtain ⟨⟨old, he⟩, hit⟩ := st
    obtain ⟨xs, hq, hx⟩ := hg
    obtain ⟨its, rv, p⟩ := src_get I hq
    have hh := I.ok.hd hc
    obtain ⟨f0, f1, f2, f3, f4, f5⟩ := hf it (by simp)
    have hl := rv.length
    have en : its.toArray.size = i := by simp; omega
    refine wpAny_pyNext_enum_endD (draws_src (A := X.A.in1) hh k it a ai its.toArray) he (by rw [en]; exact ⟨hit, p⟩) fun h' eb => ⟨rfl, I.turned (t' := s.toks) (fun b o hb q => eb b o hb q) f0 f1 f3 f4 f5⟩
  self := fun A i s Q E st h => let ⟨⟨_, he⟩, _⟩ := st; wpAny_pyIter_enum he h
open AutoSeq1 (wpAny_loadPart') in
theorem meets_enum_tup (l : Addr) (items : Array Value) (o : Obj) (ho : o.cls = .type "tuple") (n : Nat) (hd : o.data = .seq items n) :
    Meets (Builtin.«enumerate.__new__» ⟨[.type "enumerate", .ref l], []⟩) (fun _ R s => s.heap.get? l = some o ∧
      R (.ok (.ret (.ref (s.heap.push { cls := .type "tuple_iterator", data := .fields #[.ref l, .int 0 0] }).objs.size)))
        { s with heap := (s.heap.push { cls := .type "tuple_iterator", data := .fields #[.ref l, .int 0 0] }).push { cls := .type "enumerate", data := .fields #[.none, .bool false, .ref s.heap.objs.size, rawInt 0, .none, .none] } }) :=
  .of_wp fun prog w A R s h => by
    obtain ⟨oc, od, dt, sl⟩ := o
    simp only at ho hd
    subst ho hd
    obtain ⟨hp, g, d, tk, os⟩ := s; obtain ⟨hl, h⟩ := h
    have hsub := sub_enumerate
    have hL : Heap.IsTuple (Shared.heap ⟨hp, g, d, tk, os⟩) l items := ⟨_, hl, rfl, n, rfl⟩
    wp_walk using wpAny_loadPart' hl
    refine wpAny_stack_any fun st => wpAny_pure ?_
    split
    · rename_i c _ _ _ _ _
      cases (c == Value.type "enumerate")
      · wp_walk using wpAny_loadPart' hl, wpAny_pyIter_tuple hL
        exact ⟨_, rfl, h⟩
      · wp_walk using wpAny_loadPart' hl, wpAny_pyIter_tuple hL
        exact ⟨_, rfl, h⟩
    · wp_walk using wpAny_loadPart' hl, wpAny_pyIter_tuple hL
      exact ⟨_, rfl, h⟩
theorem call_enum {prog : Program} {w : World} {A : Around} {E : Value → Shared → Prop} {s : Shared} {k : Bool} {l : Addr} {items : Array Value} {Q : Value → Shared → Prop} (hL : SrcAt s.heap k l items)
    (h : ∀ h', IsEnum h' (s.heap.objs.size + 1) s.heap.objs.size 0 .none → ItS h' k s.heap.objs.size l 0 → h'.objs.size = s.heap.objs.size + 2 →
      (∀ b o, s.heap.get? b = some o → h'.get? b = some o) → Q (.ref (s.heap.objs.size + 1)) { s with heap := h' }) :
    wpAny (model prog w) A (call (.type "enumerate") [.ref l]) Q E s := by
  cases k with
  | true => exact call_enumerate_list hL h
  | false =>
    obtain ⟨o, hl, hc, n, hd⟩ := hL
    refine callType_new F.called_enumerate (by decide) (F.typeCall_enumerate_1 _) (F.newCall_enumerate_1 _) (fun obj => F.args_object_init_2 obj _) F.entry_enumerate_new
      (meets_enum_tup l items o hc n hd) ⟨hl, ?_⟩
    have hz : (s.heap.push { cls := .type "tuple_iterator", data := .fields #[.ref l, .int 0 0] }).objs.size = s.heap.objs.size + 1 := Heap.size_push ..
    show _ ∧ _
    rw [hz]
    have he : IsEnum ((s.heap.push { cls := .type "tuple_iterator", data := .fields #[.ref l, .int 0 0] }).push
        { cls := .type "enumerate", data := .fields #[.none, .bool false, .ref s.heap.objs.size, rawInt 0, .none, .none] }) (s.heap.objs.size + 1) s.heap.objs.size 0 .none := by
      have := Heap.get?_push_size (s.heap.push { cls := .type "tuple_iterator", data := .fields #[.ref l, .int 0 0] })
        (o := { cls := .type "enumerate", data := .fields #[.none, .bool false, .ref s.heap.objs.size, rawInt 0, .none, .none] }) rfl
      rw [hz] at this; exact this
    refine ⟨⟨_, he, rfl⟩, h _ he ⟨_, Heap.get?_push_of_some _ (Heap.get?_push_size _ rfl), rfl, rfl⟩ (by rw [Heap.size_push, hz]) fun b o x => Heap.get?_push_of_some _ (Heap.get?_push_of_some _ x)⟩
def iEnum (K : PySem.W.Frag) (ta : TA) : TI := fun σ H R => ta σ H fun vs H1 => ∃ k a xs, vs = [.ref a] ∧ SqA K H1 k a xs ∧ R (Ite K k a) H1
theorem pi_enum {X : Cx} {e : Expr} {ta : TA} {p pos tpos : Pos} {elts : List Expr} {kk : Nat} (hg : Gl X "enumerate") (hm : X.mg "enumerate" = none) (ha : PA X [e] ta) (hs : starEach [e] X.env = [(false, eval e X.env)] := by rfl) :
    PI X (.Tuple elts kk tpos) (.Call (.Name "enumerate" p) [e] [] pos) (iEnum X.K ta) := by
  refine ⟨fun pins s σ H R I h => ?_⟩
  refine Call_ (ld_blt I hg hm boot_enumerate (PyProof.Rows.callWith_type1 (thn (ha.run pos pins s σ H _ I h) fun us s1 ⟨vs, H1, I1, r1, q1⟩ => ?_) hs rfl))
  obtain ⟨k, a, xs, ex, hq, q⟩ := q1
  subst ex
  cases r1 with
  | cons r rr =>
    cases rr
    cases r
    obtain ⟨its, rv, p'⟩ := src_get I1 hq
    have la := src_lt p'
    refine call_enum p' fun h' he hit hsz hk => wpAny_pyIter_enum he ?_
    have I2 : Inv X pins σ H1 { s1 with heap := h' } := I1.kept (t' := s1.toks) hk
    refine ⟨s1.heap.objs.size + 1, [s1.heap.objs.size + 1, s1.heap.objs.size], _, _, H1, rfl, I2, turn_enum (e := s1.heap.objs.size + 1) (it := s1.heap.objs.size) (Nat.ne_of_gt (Nat.lt_of_lt_of_le la (Nat.le_succ _))) (Nat.ne_of_lt la) (Nat.succ_ne_self _), ⟨⟨.none, he⟩, hit⟩, fun b hb => ?_, q⟩
    have e' : b = s1.heap.objs.size + 1 ∨ b = s1.heap.objs.size := by simpa using hb
    have hle : s1.heap.objs.size ≤ b := by
      rcases e' with z | z
      · rw [z]; exact Nat.le_add_right _ _
      · rw [z]; exact Nat.le_refl _
    exact I1.fpOk hle (I1.hok.fresh hle)
end QS
end

/-! text LayF -/
section
set_option Elab.async false
set_option linter.all false
set_option maxRecDepth 100000
/-! more walks, targets, comprehensions -/
namespace Q
open PySem PySem.Spec PyProof.Rows L2
section
variable {X : Cx} {C : Ct} {e a b : Expr} {es : List Expr} {ρ ρ1 ρ2 ρ3 : List Sl} {x y z : B} {xs ys bs : List B} {pos : Pos}

/-! ### zip, enumerate, range with a step -/
/-- a list or a tuple -/
def seqB (k : Bool) (xs : List B) : B := match k with
  | true => .lst xs
  | false => .tup xs
theorem den_src {K : PySem.W.Frag} {H : Hp} {v : V} {k : Bool} (d : Den C H v (seqB k xs)) : ∃ a vs, v = .ref a ∧ DenAll C H vs xs ∧ (∀ H', Ex H H' → QS.SqA K H' k a vs) := by
  cases k with
  | true => cases d with
    | lst h r => exact ⟨_, _, rfl, r, fun H' e => .inl (.inl (e _ _ h))⟩
  | false => cases d with
    | tup h r => exact ⟨_, _, rfl, r, fun H' e => .inl (.inl (e _ _ h))⟩
def pairB (p : B × B) : B := .tup [p.1, p.2]
theorem get_len {α : Type} {xs : List α} {i : Nat} (h : i < xs.length) : ∃ x, xs[i]? = some x := ⟨_, List.getElem?_eq_getElem h⟩
theorem v_zip {elts : List Expr} {kk : Nat} {tpos p : Pos} {k l : Bool} (hm : X.mg "zip" = none) (ha : EB C X a ρ (seqB k xs) ρ1) (hb : EB C X b ρ1 (seqB l ys) ρ2) (hg : Gl X "zip" := by rfl)
    (hs : starEach [a, b] X.env = (false, eval a X.env) :: starEach [b] X.env := by rfl) (hs2 : starEach [b] X.env = [(false, eval b X.env)] := by rfl) (hpl : (backTo pos (starEach [b] X.env)).any (·.1) = false := by rfl) :
    VB C X (.Tuple elts kk tpos) (.Call (.Name "zip" p) [a, b] [] pos) ρ ((xs.zip ys).map pairB) ρ2 :=
  pi_mono (QS.pi_zip hg hm (a_cons ha (a_cons hb a_nil hs2) hs) hs hpl) fun σ H R ⟨β, H0, V, k⟩ => ⟨β, H0, V, fun vs H1 H1' e1 V1 d1 => by
    cases d1 with
    | cons d1 d2 =>
      cases d2 with
      | cons d2 d3 =>
        cases d3
        obtain ⟨p1, us, rfl, r1, q1⟩ := den_src (K := X.K) d1
        obtain ⟨p2, ws, rfl, r2, q2⟩ := den_src (K := X.K) d2
        have l1 := r1.len
        have l2 := r2.len
        refine ⟨_, _, p1, p2, us, ws, rfl, q1 _ V1.ex, q2 _ V1.ex, k _ H1 H1' e1 V1 ⟨fun i H e hi => ?_, fun H e => ?_, fun i H v H' Hc e2 e3 hy b hb => ?_⟩⟩
        · rw [List.length_map, List.length_zip] at hi
          obtain ⟨u, hu⟩ := get_len (xs := us) (i := i) (by omega)
          obtain ⟨w, hw⟩ := get_len (xs := ws) (i := i) (by omega)
          exact ⟨us, ws, u, w, q1 _ e, q2 _ e, hu, hw⟩
        · rw [List.length_map, List.length_zip]
          exact ⟨us, ws, q1 _ e, q2 _ e, by omega, by omega, by omega⟩
        · obtain ⟨T, u, w, rfl, hT, rfl, f1, f2⟩ := hy
          have hu := f1 us (q1 _ (e2.trans e3))
          have hw := f2 ws (q2 _ (e2.trans e3))
          obtain ⟨c1, g1, k1⟩ := r1.getV hu
          obtain ⟨c2, g2, k2⟩ := r2.getV hw
          have hz : (xs.zip ys)[i]? = some (c1, c2) := by rw [List.getElem?_zip_eq_some]; exact ⟨g1, g2⟩
          rw [List.getElem?_map, hz] at hb
          cases hb
          have s := Stp.new (o := .tup [u, w]) e3 hT
          exact ⟨_, s, .tup upd_same (.cons ((k1.mono e2).mono s.e0) (.cons ((k2.mono e2).mono s.e0) .nil))⟩⟩
/-- the items with their places -/
def enumB (xs : List B) : List B := xs.zipIdx.map fun p => B.tup [.int (p.2 : Int), p.1]
theorem v_enum {elts : List Expr} {kk : Nat} {tpos p : Pos} {k : Bool} (hm : X.mg "enumerate" = none) (ha : EB C X a ρ (seqB k xs) ρ1) (hg : Gl X "enumerate" := by rfl) (hs : starEach [a] X.env = [(false, eval a X.env)] := by rfl) :
    VB C X (.Tuple elts kk tpos) (.Call (.Name "enumerate" p) [a] [] pos) ρ (enumB xs) ρ1 :=
  pi_mono (QS.pi_enum hg hm (a_cons ha a_nil hs) hs) fun σ H R ⟨β, H0, V, k⟩ => ⟨β, H0, V, fun vs H1 H1' e1 V1 d1 => by
    cases d1 with
    | cons d1 d2 =>
      cases d2
      obtain ⟨p1, us, rfl, r1, q1⟩ := den_src (K := X.K) d1
      have l1 := r1.len
      refine ⟨_, p1, us, rfl, q1 _ V1.ex, k _ H1 H1' e1 V1 ⟨fun i H e hi => ?_, fun H e => ?_, fun i H v H' Hc e2 e3 hy b hb => ?_⟩⟩
      · have hi' : i < xs.length := by simpa [enumB] using hi
        obtain ⟨u, hu⟩ := get_len (xs := us) (i := i) (by omega)
        exact ⟨us, u, q1 _ e, hu⟩
      · exact ⟨us, q1 _ e, by simp [enumB]; omega⟩
      · obtain ⟨T, u, rfl, hT, rfl, f1⟩ := hy
        have hu := f1 us (q1 _ (e2.trans e3))
        obtain ⟨c1, g1, k1⟩ := r1.getV hu
        have hz : b = .tup [.int (i : Int), c1] := by
          unfold enumB at hb
          rw [List.getElem?_map, List.getElem?_zipIdx, g1] at hb
          simp at hb
          exact hb.symm
        subst hz
        have s := Stp.new (o := .tup [.int (i : Nat), u]) e3 hT
        exact ⟨_, s, .tup upd_same (.cons (.int _) (.cons ((k1.mono e2).mono s.e0) .nil))⟩⟩
/-- whole numbers by a step -/
def rngC (lo c : Int) (n : Nat) : List B := (List.range n).map fun (i : Nat) => B.int (lo + (i : Int) * c)
theorem yl_rngC {lo c : Int} {n : Nat} {H0 : Hp} : Yl C (Itc lo c n) (rngC lo c n) H0 where
  go := fun i H e hi => by
    have : i < n := by simpa [rngC] using hi
    exact this
  stop := fun H e => by
    show n ≤ (rngC lo c n).length
    simp [rngC]
  yld := fun i H v H' Hc e1 e2 ⟨e3, k⟩ b hb => by
    subst e3 k
    have hi : i < n := by
      have := (List.getElem?_eq_some_iff.mp hb).1
      simpa [rngC] using this
    have : b = B.int (lo + (i : Int) * c) := by
      unfold rngC at hb
      rw [List.getElem?_map, List.getElem?_range hi] at hb
      exact (Option.some.inj hb).symm
    subst this
    exact ⟨Hc, Stp.refl e2, .int _⟩
theorem v_rng3 {tg c : Expr} {p : Pos} {lo hi st : Int} {n : Nat} (hm : X.mg "range" = none) (ha : AB C X [a, b, c] ρ [.int lo, .int hi, .int st] ρ1) (hr : RgC lo hi st n) (hg : Gl X "range" := by rfl)
    (hs : starEach [a, b, c] X.env = (false, eval a X.env) :: starEach [b, c] X.env := by rfl) (hpl : (backTo pos (starEach [b, c] X.env)).any (·.1) = false := by rfl) :
    VB C X tg (.Call (.Name "range" p) [a, b, c] [] pos) ρ (rngC lo st n) ρ1 := pi_mono (pi_range3 hg hm ha hs hpl) fun σ H R ⟨β, H0, V, k⟩ => ⟨β, H0, V, fun vs H1 H1' e1 V1 d1 => by
  cases d1 with
  | cons d r =>
    cases d
    cases r with
    | cons d r =>
      cases d
      cases r with
      | cons d r =>
        cases d
        cases r
        exact ⟨lo, hi, st, n, rfl, hr, k _ H1 H1' e1 V1 yl_rngC⟩⟩

/-! ### targets -/
def gOf (C : Ct) (ρ : List Sl) (b : B) (ρ' : List Sl) (js : List Nat) : TG := fun v σ H Q => ∃ β H0, Sat C β σ H0 H ρ ∧ Den C H0 v b ∧ ∀ σ' H0' H', Ex H0 H0' → Sat C β σ' H0' H' ρ' → (∀ vs : List Nat, (∀ j, j ∈ js → j ∈ vs) → wipe σ' vs = wipe σ vs) → Q σ' H'
abbrev GB (C : Ct) (X : Cx) (tg : Expr) (ρ : List Sl) (b : B) (ρ' : List Sl) (js : List Nat) : Prop := PG X tg (gOf C ρ b ρ' js)
theorem pg_mono {tg : Expr} {t t' : TG} (h : PG X tg t) (m : ∀ v σ H Q, t' v σ H Q → t v σ H Q) : PG X tg t' := ⟨fun pins s σ H v u Q I r q => h.run pins s σ H v u Q I r (m v σ H Q q)⟩
theorem wipe_get {σ : L2.St} {i : Nat} : ∀ {vs : List Nat}, i ∈ vs → i < σ.length → (wipe σ vs)[i]? = some none
  | [], h, _ => by simp at h
  | v :: vs, h, hl => by
    unfold wipe
    by_cases e : v = i
    · rw [e, List.getElem?_set_self (by rw [wipe_length]; exact hl)]
    · rw [List.getElem?_set_ne e]
      exact wipe_get ((List.mem_cons.mp h).elim (fun z => absurd z.symm e) id) hl
theorem wipe_set {σ : L2.St} {j : Nat} {o : Option V} {vs : List Nat} (h : j ∈ vs) : wipe (σ.set j o) vs = wipe σ vs := by
  apply List.ext_getElem?
  intro i
  by_cases hi : i ∈ vs
  · by_cases hl : i < σ.length
    · rw [wipe_get hi hl, wipe_get hi (by rw [List.length_set]; exact hl)]
    · rw [List.getElem?_eq_none (by rw [wipe_length, List.length_set]; omega), List.getElem?_eq_none (by rw [wipe_length]; omega)]
  · rw [wipe_out hi, wipe_out hi, List.getElem?_set_ne (fun z => hi (by rw [← z]; exact h))]
theorem wipe_idem {σ : L2.St} {vs : List Nat} : wipe (wipe σ vs) vs = wipe σ vs := by
  apply List.ext_getElem?
  intro i
  by_cases hi : i ∈ vs
  · by_cases hl : i < σ.length
    · rw [wipe_get hi hl, wipe_get hi (by rw [wipe_length]; exact hl)]
    · rw [List.getElem?_eq_none (by rw [wipe_length, wipe_length]; omega), List.getElem?_eq_none (by rw [wipe_length]; omega)]
  · rw [wipe_out hi]
theorem g_name (j : Nat) {n : Str} {p : Pos} (hN : X.N.Nodup) (hi : X.N[j]? = some n := by rfl) (hx : Loc X.env.scope n := by first | exact Or.inl rfl | exact Or.inr rfl) (hf : X.fn n = true ∨ X.env.scope.names.lookup n = some .local := by first | exact .inl rfl | exact .inr rfl) :
    GB C X (.Name n p) ρ x (ρ.set j (.va x)) [j] := pg_mono (pg_name hN hi hx hf) fun v σ H Q ⟨β, H0, V, d, k⟩ => k _ H0 H (Evl.Ex.refl _) (V.set d) fun vs h => wipe_set (h j (by simp))
theorem g_pair (i j : Nat) {n m : Str} {p q tp : Pos} {kt : Nat} (hc : X.calm = true) (hN : X.N.Nodup) (hi : X.N[i]? = some n := by rfl) (hj : X.N[j]? = some m := by rfl) (hx : Loc X.env.scope n := by first | exact Or.inl rfl | exact Or.inr rfl) (hy : Loc X.env.scope m := by first | exact Or.inl rfl | exact Or.inr rfl)
    (hf : X.fn n = true ∨ X.env.scope.names.lookup n = some .local := by first | exact .inl rfl | exact .inr rfl) (hf2 : X.fn m = true ∨ X.env.scope.names.lookup m = some .local := by first | exact .inl rfl | exact .inr rfl)
    (hs : (assignEach [.Name n p, .Name m q] X.env).map (·.2) = assign (.Name n p) X.env :: (assignEach [.Name m q] X.env).map (·.2) := by rfl) (hs2 : (assignEach [.Name m q] X.env).map (·.2) = assign (.Name m q) X.env :: (assignEach [] X.env).map (·.2) := by rfl)
    (hn : (assignEach [.Name n p, .Name m q] X.env).length = 2 := by rfl) (hst : (assignEach [.Name n p, .Name m q] X.env).findIdx? (·.1) = none := by rfl) :
    GB C X (.Tuple [.Name n p, .Name m q] kt tp) ρ (.tup [x, y]) ((ρ.set i (.va x)).set j (.va y)) [i, j] :=
  pg_mono (pg_tup hc (pgs_cons (pg_name hN hi hx hf) (pgs_cons (pg_name hN hj hy hf2) pgs_nil hs2) hs) hn hst) fun v σ H Q ⟨β, H0, V, d, k⟩ => by
    cases d with
    | tup h r =>
      cases r with
      | cons d1 r =>
        cases r with
        | cons d2 r =>
          cases r
          refine ⟨_, _, rfl, .inl (.inl (V.ex _ _ h)), rfl, _, _, rfl, _, _, rfl, rfl, k _ H0 H (Evl.Ex.refl _) ((V.set d1).set d2) fun vs hv => ?_⟩
          rw [wipe_set (hv j (by simp)), wipe_set (hv i (by simp))]

/-! ### comprehensions -/
/-- what a block sees: shared values alone, not its own names -/
structure Blk (ρ : List Sl) (vs : List Nat) (ρb : List Sl) : Prop where
  len : ρb.length = ρ.length
  va : ∀ (i : Nat) (b : B), ρb[i]? = some (.va b) → ρ[i]? = some (.va b) ∧ i ∉ vs
  ow : ∀ (i : Nat) (b : OB), ρb[i]? = some (.ow b) → False
  tk : ∀ (i : Nat) (T : List (Addr × Str)), ρb[i]? = some (.tk T) → False
/-- the slots that a block sees -/
def blkS (vs : List Nat) : Nat → List Sl → List Sl
  | _, [] => []
  | k, .va b :: r => (if vs.contains k then .un else .va b) :: blkS vs (k + 1) r
  | k, _ :: r => .un :: blkS vs (k + 1) r
theorem blkS_len (vs : List Nat) : ∀ (k : Nat) (ρ : List Sl), (blkS vs k ρ).length = ρ.length
  | _, [] => rfl
  | k, .va b :: r => congrArg Nat.succ (blkS_len vs (k + 1) r)
  | k, .un :: r => congrArg Nat.succ (blkS_len vs (k + 1) r)
  | k, .ow _ :: r => congrArg Nat.succ (blkS_len vs (k + 1) r)
  | k, .tk _ :: r => congrArg Nat.succ (blkS_len vs (k + 1) r)
theorem blkS_va (vs : List Nat) : ∀ (k : Nat) (ρ : List Sl) (i : Nat) (b : B), (blkS vs k ρ)[i]? = some (.va b) → ρ[i]? = some (.va b) ∧ k + i ∉ vs
  | _, [], i, b, h => by simp [blkS] at h
  | k, .va c :: r, 0, b, h => by
    unfold blkS at h
    have h2 := Option.some.inj h
    by_cases hc : vs.contains k = true
    · rw [if_pos hc] at h2
      cases h2
    · rw [if_neg hc] at h2
      cases h2
      refine ⟨rfl, fun z => hc ?_⟩
      rw [Nat.add_zero] at z
      simpa using z
  | k, .un :: r, 0, b, h => by
    unfold blkS at h
    cases Option.some.inj h
  | k, .ow _ :: r, 0, b, h => by
    unfold blkS at h
    cases Option.some.inj h
  | k, .tk _ :: r, 0, b, h => by
    unfold blkS at h
    cases Option.some.inj h
  | k, .va c :: r, i + 1, b, h => by
    have q := blkS_va vs (k + 1) r i b h
    exact ⟨q.1, by rw [show k + (i + 1) = k + 1 + i by omega]; exact q.2⟩
  | k, .un :: r, i + 1, b, h => by
    have q := blkS_va vs (k + 1) r i b h
    exact ⟨q.1, by rw [show k + (i + 1) = k + 1 + i by omega]; exact q.2⟩
  | k, .ow _ :: r, i + 1, b, h => by
    have q := blkS_va vs (k + 1) r i b h
    exact ⟨q.1, by rw [show k + (i + 1) = k + 1 + i by omega]; exact q.2⟩
  | k, .tk _ :: r, i + 1, b, h => by
    have q := blkS_va vs (k + 1) r i b h
    exact ⟨q.1, by rw [show k + (i + 1) = k + 1 + i by omega]; exact q.2⟩
theorem blkS_ow (vs : List Nat) : ∀ (k : Nat) (ρ : List Sl) (i : Nat) (b : OB), (blkS vs k ρ)[i]? = some (.ow b) → False
  | _, [], i, b, h => by simp [blkS] at h
  | k, .va c :: r, 0, b, h => by
    unfold blkS at h
    have h2 := Option.some.inj h
    split at h2 <;> cases h2
  | k, .un :: r, 0, b, h => by
    unfold blkS at h
    cases Option.some.inj h
  | k, .ow _ :: r, 0, b, h => by
    unfold blkS at h
    cases Option.some.inj h
  | k, .tk _ :: r, 0, b, h => by
    unfold blkS at h
    cases Option.some.inj h
  | k, .va c :: r, i + 1, b, h => blkS_ow vs (k + 1) r i b h
  | k, .un :: r, i + 1, b, h => blkS_ow vs (k + 1) r i b h
  | k, .ow _ :: r, i + 1, b, h => blkS_ow vs (k + 1) r i b h
  | k, .tk _ :: r, i + 1, b, h => blkS_ow vs (k + 1) r i b h
theorem blkS_tk (vs : List Nat) : ∀ (k : Nat) (ρ : List Sl) (i : Nat) (T : List (Addr × Str)), (blkS vs k ρ)[i]? = some (.tk T) → False
  | _, [], i, b, h => by simp [blkS] at h
  | k, .va c :: r, 0, b, h => by
    unfold blkS at h
    have h2 := Option.some.inj h
    split at h2 <;> cases h2
  | k, .un :: r, 0, b, h => by
    unfold blkS at h
    cases Option.some.inj h
  | k, .ow _ :: r, 0, b, h => by
    unfold blkS at h
    cases Option.some.inj h
  | k, .tk _ :: r, 0, b, h => by
    unfold blkS at h
    cases Option.some.inj h
  | k, .va c :: r, i + 1, b, h => blkS_tk vs (k + 1) r i b h
  | k, .un :: r, i + 1, b, h => blkS_tk vs (k + 1) r i b h
  | k, .ow _ :: r, i + 1, b, h => blkS_tk vs (k + 1) r i b h
  | k, .tk _ :: r, i + 1, b, h => blkS_tk vs (k + 1) r i b h
theorem blk_of (vs : List Nat) (ρ : List Sl) : Blk ρ vs (blkS vs 0 ρ) := ⟨blkS_len vs 0 ρ, fun i b h => by
  have q := blkS_va vs 0 ρ i b h
  rw [Nat.zero_add] at q
  exact q, fun i b h => blkS_ow vs 0 ρ i b h, fun i T h => blkS_tk vs 0 ρ i T h⟩
theorem sat_blk {β : Bs} {σ : L2.St} {H0 H Hc Hd : Hp} {vs : List Nat} {ρb : List Sl} (V : Sat C β σ H0 H ρ) (hb : Blk ρ vs ρb) (e : Ex H0 Hc) (e2 : Ex Hc Hd) : Sat C ⟨Hc, Hd, fun _ => False, []⟩ (wipe σ vs) Hc Hd ρb where
  tb := ⟨fun q hq => absurd hq (by simp), fun q hq => absurd hq (by simp)⟩
  tk := fun i T h => (hb.tk i T h).elim
  exb := Evl.Ex.refl _
  ex := e2
  out := fun a _ h _ => ⟨h, rfl⟩
  bo := fun a h => h.elim
  bE := fun a h => h.elim
  len := by rw [wipe_length, V.len, hb.len]
  va := fun i b h => by
    obtain ⟨h1, h2⟩ := hb.va i b h
    obtain ⟨v, h3, h4⟩ := V.va i b h1
    exact ⟨v, by rw [wipe_out h2]; exact h3, h4.mono e⟩
  ow := fun i b h => (hb.ow i b h).elim
  sep := fun i j bi bj p h => (hb.ow i bi h).elim
theorem den_snoc {H : Hp} : ∀ {vs : List V} {bs : List B} {v : V} {b : B}, DenAll C H vs bs → Den C H v b → DenAll C H (vs ++ [v]) (bs ++ [b]) := fun r d => r.append (.cons d .nil)
theorem lc_read {ι : Type} {zs : List ι} {inj : ι → B} {ρt : ι → List Sl} {p : ι → Bool} {f : ι → B} {vs : List Nat} {ρb : List Sl} (hb : Blk ρ1 vs ρb) (hl : zs.length ≤ sizeLine) :
    ∀ σ H Q, fOf C ρ (.lst ((zs.filter p).map f)) ρ1 σ H Q → tLc (wOf C ρ (zs.map inj) ρ1) (fun v σ H Q => ∃ z, z ∈ zs ∧ gOf C ρb (inj z) (ρt z) vs v σ H Q) (fun σ H Q => ∃ z, z ∈ zs ∧ cOf C (ρt z) (p z) (ρt z) σ H Q) (fun σ H Q => ∃ z, z ∈ zs ∧ p z = true ∧ tOf C (ρt z) (f z) (ρt z) σ H Q) vs σ H Q := by
  intro σ H Q ⟨β, H0, V, k⟩
  refine ⟨β, H0, V, fun J H1 H1' e1 V1 Y D hD => ?_⟩
  obtain ⟨f1, f2, f3⟩ := V1.fresh hD
  have hn : (zs.map inj).length = zs.length := List.length_map ..
  refine ⟨fun i m H => m = zs.length - i ∧ i ≤ zs.length ∧ ∃ Hc acc, Ex H1 Hc ∧ Ex Hc H ∧ (∀ a, a ≠ D → H1' a ≠ none → H1 a = none → Hc a = none ∧ H a = H1' a) ∧ Hc D = none ∧ H D = some (.lst acc) ∧ DenAll C Hc acc (((zs.take i).filter p).map f) ∧ acc.length ≤ i,
    ⟨zs.length, by simp, Nat.zero_le _, H1, [], Evl.Ex.refl _, (Stp.garb V1.ex hD).e1, fun a ha h1 h2 => ⟨h2, upd_ne ha⟩, f1, upd_same, .nil, Nat.le_refl _⟩, ?_⟩
  rintro i m H ⟨rfl, hi', Hc, acc, c1, c2, c3, c4, c5, c6, c7⟩
  by_cases hlt : i < zs.length
  · refine .inr ⟨Y.go i H (c1.trans c2) (by rw [hn]; exact hlt), fun H' => i + 1 ≤ zs.length ∧ ∃ Hc acc, Ex H1 Hc ∧ Ex Hc H' ∧ (∀ a, a ≠ D → H1' a ≠ none → H1 a = none → Hc a = none ∧ H' a = H1' a) ∧ Hc D = none ∧ H' D = some (.lst acc) ∧ DenAll C Hc acc (((zs.take (i + 1)).filter p).map f) ∧ acc.length ≤ i + 1,
      fun H' h => ⟨zs.length - (i + 1), by omega, rfl, h⟩, fun x H' y => ?_⟩
    have hz : zs[i]? = some zs[i] := List.getElem?_eq_getElem hlt
    have hmem : zs[i] ∈ zs := List.getElem_mem hlt
    have htk : zs.take (i + 1) = zs.take i ++ [zs[i]] := by rw [List.take_succ, hz]; rfl
    obtain ⟨Hd, sd, dx⟩ := Y.yld i H x H' Hc c1 c2 y (inj zs[i]) (by rw [List.getElem?_map, hz]; rfl)
    have cD : H D ≠ none := by rw [c5]; exact fun z => nomatch z
    obtain ⟨d1, d2⟩ := sd.out D cD c4
    have d3 : ∀ a, a ≠ D → H1' a ≠ none → H1 a = none → Hd a = none ∧ H' a = H1' a := fun a ha h1 h2 => by
      obtain ⟨q1, q2⟩ := c3 a ha h1 h2
      obtain ⟨r1, r2⟩ := sd.out a (by rw [q2]; exact h1) q1
      exact ⟨r1, r2.trans q2⟩
    refine ⟨zs[i], hmem, ⟨Hd, H', fun _ => False, []⟩, Hd, sat_blk V1 hb (c1.trans sd.e0) sd.e1, dx, fun σ2 G G' g1 W1 wq => ?_⟩
    refine ⟨(wq _ fun _ h => h).trans wipe_idem, zs[i], hmem, _, G, W1, fun G2 G2' g2 W2 => ?_⟩
    have fin : ∀ {G3 G3' : Hp}, Ex Hd G3 → Sat C ⟨Hd, H', fun _ => False, []⟩ σ2 G3 G3' (ρt zs[i]) → Ex H1 G3 ∧ Ex G3 G3' ∧ (∀ a, a ≠ D → H1' a ≠ none → H1 a = none → G3 a = none ∧ G3' a = H1' a) ∧ G3 D = none ∧ G3' D = some (.lst acc) := fun {G3 G3'} g W => by
      refine ⟨(c1.trans sd.e0).trans g, W.ex, fun a ha h1 h2 => ?_, ?_⟩
      · obtain ⟨q1, q2⟩ := d3 a ha h1 h2
        obtain ⟨r1, r2⟩ := W.out a (show H' a ≠ none by rw [q2]; exact h1) q1 (fun z => z)
        exact ⟨r1, r2.trans q2⟩
      · obtain ⟨r1, r2⟩ := W.out D (show H' D ≠ none by rw [d2]; exact cD) d1 (fun z => z)
        exact ⟨r1, r2.trans (d2.trans c5)⟩
    cases hp : p zs[i] with
    | true =>
      refine iteT ⟨zs[i], hmem, hp, _, G2, W2, fun y G3 G3' g3 W3 dy => ?_⟩
      obtain ⟨q1, q2, q3, q4, q5⟩ := fin ((g1.trans g2).trans g3) W3
      refine ⟨acc, q5, Nat.lt_of_le_of_lt c7 (Nat.lt_of_lt_of_le hlt hl), hlt, G3, acc ++ [y], q1, fun a u h => ?_, fun a ha h1 h2 => ?_, q4, upd_same, ?_, ?_⟩
      · rw [upd_ne (fun z => by rw [z, q4] at h; cases h)]
        exact q2 a u h
      · obtain ⟨r1, r2⟩ := q3 a ha h1 h2
        exact ⟨r1, by rw [upd_ne ha]; exact r2⟩
      · rw [htk, List.filter_append, List.filter_cons_of_pos hp, List.filter_nil, List.map_append]
        exact den_snoc (c6.mono (sd.e0.trans ((g1.trans g2).trans g3))) dy
      · rw [List.length_append]
        exact Nat.succ_le_succ c7
    | false =>
      refine iteF ?_
      obtain ⟨q1, q2, q3, q4, q5⟩ := fin (g1.trans g2) W2
      refine ⟨hlt, G2, acc, q1, q2, q3, q4, q5, ?_, Nat.le_succ_of_le c7⟩
      rw [htk, List.filter_append, List.filter_cons_of_neg (by rw [hp]; exact Bool.false_ne_true), List.filter_nil, List.append_nil]
      exact c6.mono (sd.e0.trans (g1.trans g2))
  · have e : i = zs.length := by omega
    subst e
    rw [List.take_length] at c6
    refine .inl ⟨?_, k D Hc H (e1.trans c1) (V1.stp ⟨c1, c2, fun a h1 h2 => c3 a (fun z => h1 (by rw [z]; exact hD)) h1 h2⟩) c4 ⟨acc, c5, c6⟩ f2 f3⟩
    have q := Y.stop H (c1.trans c2)
    rw [hn] at q
    exact q
theorem f_lc {ι : Type} {elt tg iter : Expr} {ifs : List Expr} {scope : Scope} {own : List (Str × Nat)} {ρb : List Sl} (zs : List ι) (inj : ι → B) (ρt : ι → List Sl) (p : ι → Bool) (f : ι → B) (hc : X.calm = true) (hN : X.N.Nodup)
    (hi : VB C X tg iter ρ (zs.map inj) ρ1) (ok : BlkOk X.N X.env.scope scope own) (hb : Blk ρ1 (own.map (·.2)) ρb)
    (hg : ∀ (s : Shared) (H : Hp) (Ca : Addr) (cl : List (Str × Addr)) (fp : List Addr) (z : ι), z ∈ zs → GB C (X.blk s H scope (compEnvC scope cl Ca X.env) fp) tg ρb (inj z) (ρt z) (own.map (·.2)))
    (ht : ∀ (s : Shared) (H : Hp) (Ca : Addr) (cl : List (Str × Addr)) (fp : List Addr) (z : ι), z ∈ zs → PTs (X.blk s H scope (compEnvC scope cl Ca X.env) fp) ifs (cOf C (ρt z) (p z) (ρt z)))
    (he : ∀ (s : Shared) (H : Hp) (Ca : Addr) (cl : List (Str × Addr)) (fp : List Addr) (z : ι), z ∈ zs → p z = true → EB C (X.blk s H scope (compEnvC scope cl Ca X.env) fp) elt (ρt z) (f z) (ρt z))
    (hl : zs.length ≤ sizeLine) (hs : ∀ x, foldedSetIterable iter X.env x = pure x := by intro _; rfl) :
    FB C X (.ListComp elt [⟨tg, iter, ifs, 0⟩] scope pos) ρ (.lst ((zs.filter p).map f)) ρ1 := by
  exact pe_mono (pe_lc (g := fun v σ H Q => ∃ z, z ∈ zs ∧ gOf C ρb (inj z) (ρt z) (own.map (·.2)) v σ H Q) (tt := fun σ H Q => ∃ z, z ∈ zs ∧ cOf C (ρt z) (p z) (ρt z) σ H Q) (te := fun σ H Q => ∃ z, z ∈ zs ∧ p z = true ∧ tOf C (ρt z) (f z) (ρt z) σ H Q) hc hN hi ok
    (fun s H Ca cl fp => ⟨fun pins s' σ H v u Q I r ⟨z, hz, q⟩ => (hg s _ Ca cl fp z hz).run pins s' σ H v u Q I r q⟩) (fun s H Ca cl fp => ⟨fun pins s' σ H Q I ⟨z, hz, q⟩ => (ht s _ Ca cl fp z hz).run pins s' σ H Q I q⟩)
    (fun s H Ca cl fp => ⟨fun pins s' σ H Q I ⟨z, hz, hp, q⟩ => (he s _ Ca cl fp z hz hp).run pins s' σ H Q I q⟩) hs) (lc_read hb hl)
theorem t_nil : PTs X [] (cOf C ρ true ρ) := ⟨fun pins s σ H Q I ⟨β, H0, V, q⟩ => pts_nil.run pins s σ H Q I (q H0 H (Evl.Ex.refl _) V)⟩
theorem t_one {k : Bool} (h : CB C X e ρ k ρ1) : PTs X [e] (cOf C ρ k ρ1) := pts_one h
end
end Q
end

/-! text LayE -/
section
set_option Elab.async false
set_option linter.all false
set_option maxRecDepth 100000
/-! statements -/
namespace Q
open PySem PySem.Spec PyProof.Rows L2

/-- how a statement ends -/
inductive Out where
  | nx (ρ : List Sl) | rt (b : B) (ρ : List Sl) | bk (ρ : List Sl) | ct (ρ : List Sl) | rf (bs : List B) (ρ : List Sl)
def sOf (C : Ct) (ρ : List Sl) (post : Out → Prop) : TS := fun D σ H => ∃ β H0, Sat C β σ H0 H ρ ∧
  (∀ ρ', post (.nx ρ') → ∀ σ' H0' H', Ex H0 H0' → Sat C β σ' H0' H' ρ' → D.nx σ' H') ∧
  (∀ b ρ', post (.rt b ρ') → ∀ v σ' H0' H', Ex H0 H0' → Sat C β σ' H0' H' ρ' → Den C H0' v b → D.rt v H') ∧
  (∀ ρ', post (.bk ρ') → ∀ σ' H0' H', Ex H0 H0' → Sat C β σ' H0' H' ρ' → D.bk σ' H') ∧
  (∀ ρ', post (.ct ρ') → ∀ σ' H0' H', Ex H0 H0' → Sat C β σ' H0' H' ρ' → D.ct σ' H') ∧
  (∀ bs ρ', post (.rf bs ρ') → ∀ p σ' H0' H', Ex H0 H0' → Sat C β σ' H0' H' ρ' → H0' p = none → OwnAt C H0' H' p (.lst bs) → β.E p = none → D.rt (.ref p) H')
abbrev SB (C : Ct) (X : Cx) (sts : List Stmt) (ρ : List Sl) (post : Out → Prop) : Prop := PSs X sts (sOf C ρ post)
abbrev S1 (C : Ct) (X : Cx) (st : Stmt) (ρ : List Sl) (post : Out → Prop) : Prop := PS X st (sOf C ρ post)
/-- what follows: the rest of the block, or the block's own end -/
def Thn (C : Ct) (X : Cx) (rest : List Stmt) (post : Out → Prop) : Out → Prop
  | .nx ρ => SB C X rest ρ post
  | o => post o
section
variable {X : Cx} {C : Ct} {e a b : Expr} {es : List Expr} {ρ ρ1 ρ2 ρ3 : List Sl} {x y z : B} {xs ys bs : List B} {pos : Pos} {st : Stmt} {rest sts : List Stmt} {post : Out → Prop}
theorem pss_mono {t t' : TS} (h : PSs X sts t) (m : ∀ D σ H, t' D σ H → t D σ H) : PSs X sts t' := ⟨fun pins s σ H D I q => h.run pins s σ H D I (m D σ H q)⟩
theorem ps_mono {t t' : TS} (h : PS X st t) (m : ∀ D σ H, t' D σ H → t D σ H) : PS X st t' := ⟨fun pins s σ H D I q => h.run pins s σ H D I (m D σ H q)⟩
/-- the ends carried over an extension -/
theorem sof_go {D : Ends} {β : Bs} {σ : L2.St} {H0 H H1 H1' : Hp} (e : Ex H0 H1) (V : Sat C β σ H1 H1' ρ)
    (k : (∀ ρ', post (.nx ρ') → ∀ σ' H0' H', Ex H0 H0' → Sat C β σ' H0' H' ρ' → D.nx σ' H') ∧
  (∀ b ρ', post (.rt b ρ') → ∀ v σ' H0' H', Ex H0 H0' → Sat C β σ' H0' H' ρ' → Den C H0' v b → D.rt v H') ∧
  (∀ ρ', post (.bk ρ') → ∀ σ' H0' H', Ex H0 H0' → Sat C β σ' H0' H' ρ' → D.bk σ' H') ∧
  (∀ ρ', post (.ct ρ') → ∀ σ' H0' H', Ex H0 H0' → Sat C β σ' H0' H' ρ' → D.ct σ' H') ∧
  (∀ bs ρ', post (.rf bs ρ') → ∀ p σ' H0' H', Ex H0 H0' → Sat C β σ' H0' H' ρ' → H0' p = none → OwnAt C H0' H' p (.lst bs) → β.E p = none → D.rt (.ref p) H')) : sOf C ρ post D σ H1' :=
  ⟨β, H1, V, fun ρ' p σ' G G' g W => k.1 ρ' p σ' G G' (e.trans g) W, fun b ρ' p v σ' G G' g W d => k.2.1 b ρ' p v σ' G G' (e.trans g) W d, fun ρ' p σ' G G' g W => k.2.2.1 ρ' p σ' G G' (e.trans g) W, fun ρ' p σ' G G' g W => k.2.2.2.1 ρ' p σ' G G' (e.trans g) W, fun bs ρ' p q σ' G G' g W f1 f2 f3 => k.2.2.2.2 bs ρ' p q σ' G G' (e.trans g) W f1 f2 f3⟩
/-- one statement, then the rest -/
theorem q_cons (h1 : S1 C X st ρ (Thn C X rest post)) : SB C X (st :: rest) ρ post := by
  refine ⟨fun pins s σ H D I h => ?_⟩
  obtain ⟨β, H0, V, k⟩ := h
  refine wpAny_execs_cons (thn (h1.run pins s σ H { D with nx := fun σ' H' => ∃ ρ' H0', SB C X rest ρ' post ∧ Ex H0 H0' ∧ Sat C β σ' H0' H' ρ' } I
    ⟨β, H0, V, fun ρ' p σ' G G' g W => ⟨ρ', G, p, g, W⟩, fun b ρ' p => k.2.1 b ρ' p, fun ρ' p => k.2.2.1 ρ' p, fun ρ' p => k.2.2.2.1 ρ' p, fun bs ρ' p => k.2.2.2.2 bs ρ' p⟩) fun f s1 q => ?_)
  cases f with
  | next =>
    obtain ⟨σ', H', I', ρ', G, hb, g, W⟩ := q
    exact hb.run pins s1 σ' H' D I' (sof_go (H := H) g W k)
  | ret v => exact q
  | brk => exact q
  | cont => exact q
theorem q_nil (h : post (.nx ρ)) : SB C X [] ρ post := pss_mono pss_nil fun D σ H ⟨β, H0, V, k⟩ => k.1 ρ h σ H0 H (Evl.Ex.refl _) V
theorem s_set (i : Nat) {n : Str} {p' : Pos} (he : EB C X e ρ x ρ1) (hp : post (.nx (ρ1.set i (.va x)))) (hN : X.N.Nodup) (hi : X.N[i]? = some n := by rfl) (hx : Loc X.env.scope n := by first | exact Or.inl rfl | exact Or.inr rfl)
    (hs : swapsWith e (some (.Name n p')) pos.line X.env = pure false := by rfl) (hf : X.fn n = true ∨ X.env.scope.names.lookup n = some .local := by first | exact .inl rfl | exact .inr rfl) : S1 C X (.Assign [.Name n p'] e pos) ρ post :=
  ps_mono (ps_set hN hi hx he hs hf) fun D σ H ⟨β, H0, V, k⟩ => ⟨β, H0, V, fun v H1 H1' e1 V1 d1 => k.1 _ hp _ H1 H1' e1 (V1.set d1)⟩
/-- x = e -/
theorem q_set (i : Nat) {n : Str} {p' : Pos} (he : EB C X e ρ x ρ1) (hN : X.N.Nodup) (k : SB C X rest (ρ1.set i (.va x)) post) (hi : X.N[i]? = some n := by rfl) (hx : Loc X.env.scope n := by first | exact Or.inl rfl | exact Or.inr rfl)
    (hs : swapsWith e (some (.Name n p')) pos.line X.env = pure false := by rfl) (hf : X.fn n = true ∨ X.env.scope.names.lookup n = some .local := by first | exact .inl rfl | exact .inr rfl) : SB C X (.Assign [.Name n p'] e pos :: rest) ρ post :=
  q_cons (s_set i he k hN hi hx hs hf)
/-- x = a new list, owned -/
theorem q_own (i : Nat) {n : Str} {p' : Pos} {o : OB} (he : FB C X e ρ o ρ1) (hN : X.N.Nodup) (k : SB C X rest (ρ1.set i (.ow o)) post) (hi : X.N[i]? = some n := by rfl) (hx : Loc X.env.scope n := by first | exact Or.inl rfl | exact Or.inr rfl)
    (hs : swapsWith e (some (.Name n p')) pos.line X.env = pure false := by rfl) (hf : X.fn n = true ∨ X.env.scope.names.lookup n = some .local := by first | exact .inl rfl | exact .inr rfl) (h0 : i ≠ 0 := by decide) (pl : o.pl = true := by rfl) : SB C X (.Assign [.Name n p'] e pos :: rest) ρ post :=
  q_cons (ps_mono (ps_set hN hi hx he hs hf) fun D σ H ⟨β, H0, V, q⟩ => ⟨β, H0, V, fun p H1 H1' e1 V1 f1 f2 f3 f4 => q.1 _ k _ H1 H1' e1 (V1.own f1 f2 (.new f3 h0 pl) f4)⟩)
/-- return e -/
theorem q_ret (he : EB C X e ρ x ρ1) (hp : post (.rt x ρ1)) : SB C X (.Return (some e) pos :: rest) ρ post :=
  q_cons (ps_mono (ps_ret he) fun D σ H ⟨β, H0, V, k⟩ => ⟨β, H0, V, fun v H1 H1' e1 V1 d1 => k.2.1 x _ hp v σ H1 H1' e1 V1 d1⟩)
/-- return a new list, owned -/
theorem q_retF {bs : List B} (he : FB C X e ρ (.lst bs) ρ1) (hp : post (.rf bs ρ1)) : SB C X (.Return (some e) pos :: rest) ρ post :=
  q_cons (ps_mono (ps_ret he) fun D σ H ⟨β, H0, V, k⟩ => ⟨β, H0, V, fun p H1 H1' e1 V1 f1 f2 f3 _ => k.2.2.2.2 bs _ hp p σ H1 H1' e1 V1 f1 f2 f3⟩)
theorem q_retN (hp : post (.rt .non ρ)) : SB C X (.Return none pos :: rest) ρ post :=
  q_cons (ps_mono ps_retN fun D σ H ⟨β, H0, V, k⟩ => k.2.1 .non _ hp .non σ H0 H (Evl.Ex.refl _) V .non)
/-- an expression whose value is dropped -/
theorem q_drop (he : EB C X e ρ x ρ1) (k : SB C X rest ρ1 post) (hs : swapsWith e none pos.line X.env = pure false := by rfl) : SB C X (.Expr e pos :: rest) ρ post :=
  q_cons (ps_mono (ps_expr he hs) fun D σ H ⟨β, H0, V, q⟩ => ⟨β, H0, V, fun v H1 H1' e1 V1 d1 => q.1 _ k σ H1 H1' e1 V1⟩)
theorem q_break (hp : post (.bk ρ)) : SB C X (.Break pos :: rest) ρ post := q_cons (ps_mono ps_break fun D σ H ⟨β, H0, V, k⟩ => k.2.2.1 ρ hp σ H0 H (Evl.Ex.refl _) V)
theorem q_pass (k : SB C X rest ρ post) : SB C X (.Pass pos :: rest) ρ post := q_cons (ps_mono ps_pass fun D σ H ⟨β, H0, V, q⟩ => q.1 ρ k σ H0 H (Evl.Ex.refl _) V)
/-- if -/
theorem q_if {c : Expr} {as bs : List Stmt} {k : Bool} (hc : CB C X c ρ k ρ1) (h1 : k = true → SB C X as ρ1 (Thn C X rest post)) (h2 : k = false → SB C X bs ρ1 (Thn C X rest post)) : SB C X (.If c as bs pos :: rest) ρ post := by
  refine q_cons ?_
  cases k with
  | true => exact ps_mono (ps_if hc (h1 rfl) (u := fun _ _ _ => False) ⟨fun _ _ _ _ _ _ z => z.elim⟩) fun D σ H ⟨β, H0, V, q⟩ => ⟨β, H0, V, fun H1 H1' e1 V1 => iteT (sof_go (H := H) e1 V1 q)⟩
  | false => exact ps_mono (ps_if hc (t := fun _ _ _ => False) ⟨fun _ _ _ _ _ _ z => z.elim⟩ (h2 rfl)) fun D σ H ⟨β, H0, V, q⟩ => ⟨β, H0, V, fun H1 H1' e1 V1 => iteF (sof_go (H := H) e1 V1 q)⟩
/-- slots forgotten; an owned list shared -/
theorem q_weak (w : Weak ρ ρ1) (k : SB C X sts ρ1 post) : SB C X sts ρ post := pss_mono k fun D σ H ⟨β, H0, V, q⟩ => ⟨β, H0, V.weak w, q⟩
theorem q_frz (i : Nat) (h : ρ[i]? = some (.ow (.lst xs)) := by rfl) (h0 : i ≠ 0 := by decide) (k : SB C X sts (ρ.set i (.va (.lst xs))) post) : SB C X sts ρ post := pss_mono k fun D σ H ⟨β, H0, V, q⟩ => by
  obtain ⟨H1, e1, V1⟩ := V.freeze h h0
  exact sof_go (H := H) e1 V1 q
/-! ### changes of an owned list -/
theorem m_bm {r : V → List V → Hp → VK → Prop} {id : String} {m : Str} {n : Str} {p ap cp : Pos} (i : Nat) (hm : MtR X id r) (slot : Slot "list" m id) (hty : typeOf (.builtin id) = pure (.type "method_descriptor")) (ha : AB C X [e] ρ bs ρ1) (hN : X.N[i]? = some n) (hv : Vis X.env.scope n)
    (hd : (n == ("__debug__" : Str)) = false) (hcd : (n == ("__classdict__" : Str)) = false) (hline : (ap.endLine == cp.line) = true) (hst : starEach [e] X.env = [(false, eval e X.env)]) (hfew : ((backTo cp (starEach [e] X.env)).all (fun x => !x.1) && (backToKw cp (keywordEach [] X.env)).all (fun x => x.1.isSome) && decide ([e].length + ([] : List Keyword).length + (if ([] : List Keyword).isEmpty then 0 else 1) < 30)) = true) : PE X (.Call (.Attribute (.Name n p) m ap) [e] [] cp) (tBM X.K "list" r (tVar i) (aOf C ρ bs ρ1)) :=
  pe_bm PySem.F.plainAttrs_list slot hty hm (pe_var hN hv hd hcd) ha rfl hfew hline hst rfl
/-- xs.append(e) -/
theorem q_app (i : Nat) {n : Str} {p ap cp : Pos} (he : EB C X e ρ x ρ1) (hz : xs.length < sizeLine) (k : SB C X rest (ρ1.set i (.ow (.lst (xs ++ [x])))) post) (h : ρ1[i]? = some (.ow (.lst xs)) := by rfl) (h0 : ρ[i]? = some (.ow (.lst ys)) := by rfl) (hN : X.N[i]? = some n := by rfl)
    (hv : Vis X.env.scope n := by first | exact Or.inl rfl | exact Or.inr (Or.inl rfl) | exact Or.inr (Or.inr rfl)) (hd : (n == ("__debug__" : Str)) = false := by decide) (hcd : (n == ("__classdict__" : Str)) = false := by decide)
    (hline : (ap.endLine == cp.line) = true := by rfl) (hst : starEach [e] X.env = [(false, eval e X.env)] := by rfl) (hfew : ((backTo cp (starEach [e] X.env)).all (fun x => !x.1) && (backToKw cp (keywordEach [] X.env)).all (fun x => x.1.isSome) && decide ([e].length + ([] : List Keyword).length + (if ([] : List Keyword).isEmpty then 0 else 1) < 30)) = true := by rfl)
    (hs : swapsWith (.Call (.Attribute (.Name n p) "append" ap) [e] [] cp) none pos.line X.env = pure false := by rfl) : SB C X (.Expr (.Call (.Attribute (.Name n p) "append" ap) [e] [] cp) pos :: rest) ρ post :=
  q_cons (ps_mono (ps_expr (m_bm i mt_append PySem.F.slot_list_append PySem.F.type_list_append (a_cons he a_nil hst) hN hv hd hcd hline hst hfew) hs) fun D σ H ⟨β, H0, V, q⟩ => by
    obtain ⟨p1, h1, h2, ⟨vs, h3, d⟩, h4⟩ := V.ow i _ h0
    refine ⟨_, h1, .inl ⟨rfl, _, .inl (.inl h3)⟩, β, H0, V, fun ws H1 H1' e1 V1 d1 => ?_⟩
    obtain ⟨p2, k1, k2, ⟨vs', k3, d'⟩, k4⟩ := V1.ow i _ h
    rw [h1] at k1
    cases k1
    cases d1 with
    | cons d1 d2 =>
      cases d2
      exact ⟨p1, vs', _, rfl, rfl, k3, by rw [d'.len]; exact hz, q.1 _ k σ H1 _ e1 (V1.write (b' := .lst _) h h1 ⟨vs' ++ [_], upd_same, d'.append (.cons d1 .nil)⟩ k3 trivial (fun z => z))⟩)
/-- xs.extend(e), e a new list -/
theorem q_ext (i : Nat) {n : Str} {p ap cp : Pos} (he : EB C X e ρ (.lst bs) ρ1) (hz : xs.length + bs.length ≤ sizeLine) (k : SB C X rest (ρ1.set i (.ow (.lst (xs ++ bs)))) post) (h : ρ1[i]? = some (.ow (.lst xs)) := by rfl) (h0 : ρ[i]? = some (.ow (.lst ys)) := by rfl) (hN : X.N[i]? = some n := by rfl)
    (hv : Vis X.env.scope n := by first | exact Or.inl rfl | exact Or.inr (Or.inl rfl) | exact Or.inr (Or.inr rfl)) (hd : (n == ("__debug__" : Str)) = false := by decide) (hcd : (n == ("__classdict__" : Str)) = false := by decide)
    (hline : (ap.endLine == cp.line) = true := by rfl) (hst : starEach [e] X.env = [(false, eval e X.env)] := by rfl) (hfew : ((backTo cp (starEach [e] X.env)).all (fun x => !x.1) && (backToKw cp (keywordEach [] X.env)).all (fun x => x.1.isSome) && decide ([e].length + ([] : List Keyword).length + (if ([] : List Keyword).isEmpty then 0 else 1) < 30)) = true := by rfl)
    (hs : swapsWith (.Call (.Attribute (.Name n p) "extend" ap) [e] [] cp) none pos.line X.env = pure false := by rfl) : SB C X (.Expr (.Call (.Attribute (.Name n p) "extend" ap) [e] [] cp) pos :: rest) ρ post :=
  q_cons (ps_mono (ps_expr (m_bm i mt_extend PySem.F.slot_list_extend PySem.F.type_list_extend (a_cons he a_nil hst) hN hv hd hcd hline hst hfew) hs) fun D σ H ⟨β, H0, V, q⟩ => by
    obtain ⟨p1, h1, h2, ⟨vs, h3, d⟩, h4⟩ := V.ow i _ h0
    refine ⟨_, h1, .inl ⟨rfl, _, .inl (.inl h3)⟩, β, H0, V, fun ws H1 H1' e1 V1 d1 => ?_⟩
    obtain ⟨p2, k1, k2, ⟨vs', k3, d'⟩, k4⟩ := V1.ow i _ h
    rw [h1] at k1
    cases k1
    cases d1 with
    | cons d1 d2 =>
      cases d2
      cases d1 with
      | lst g r =>
        exact ⟨p1, _, vs', _, rfl, rfl, k3, V1.ex _ _ g, by rw [d'.len, r.len]; exact hz, q.1 _ k σ H1 _ e1 (V1.write (b' := .lst _) h h1 ⟨vs' ++ _, upd_same, d'.append r⟩ k3 trivial (fun z => z))⟩)
/-- the place that an index means -/
theorem q_put (i : Nat) {n : Str} {p tp : Pos} {k : Int} {j : Nat} (he : EB C X e ρ x ρ1) (hi : EB C X b ρ1 (.int k) ρ1) (hj : ixN xs.length k = some j) (q : SB C X rest (ρ1.set i (.ow (.lst (xs.set j x)))) post) (h : ρ1[i]? = some (.ow (.lst xs)) := by rfl) (hN : X.N[i]? = some n := by rfl)
    (hv : Vis X.env.scope n := by first | exact Or.inl rfl | exact Or.inr (Or.inl rfl) | exact Or.inr (Or.inr rfl)) (hd : (n == ("__debug__" : Str)) = false := by decide) (hcd : (n == ("__classdict__" : Str)) = false := by decide)
    (ha : ∀ v, assign (.Subscript (.Name n p) b tp) X.env v = (do
      let ov ← holding [v] (eval (.Name n p) X.env)
      let iv ← holding [v, ov] (eval b X.env)
      standAt tp
      holding [v, ov, iv] (setItem ov iv v)
      release [v, ov, iv] []) := by intro _; rfl) (hs : swapsWithSole [.Subscript (.Name n p) b tp] e pos.line X.env = pure false := by rfl) (hw : swappedStores [.Subscript (.Name n p) b tp] e X.env = pure none := by rfl)
    (h1 : (assignEach [.Subscript (.Name n p) b tp] X.env).map (·.2) = [assign (.Subscript (.Name n p) b tp) X.env] := by rfl) : SB C X (.Assign [.Subscript (.Name n p) b tp] e pos :: rest) ρ post :=
  q_cons (ps_mono (ps_asg he (pg_sub (pe_var hN hv hd hcd) hi set_list ha) hs hw h1) fun D σ H ⟨β, H0, V, K⟩ => ⟨β, H0, V, fun v H1 H1' e1 V1 d1 => by
    obtain ⟨p1, h1, h2, ⟨vs, h3, d⟩, h4⟩ := V1.ow i _ h
    refine ⟨_, h1, β, H1, V1, fun u H2 H2' e2 V2 d2 => ?_⟩
    cases d2
    obtain ⟨p2, k1, k2, ⟨vs', k3, d'⟩, k4⟩ := V2.ow i _ h
    rw [h1] at k1
    cases k1
    exact ⟨p1, vs', k, j, rfl, rfl, k3, by rw [d'.len]; exact hj, K.1 _ q σ H2 _ (e1.trans e2) (V2.write (b' := .lst _) h h1 ⟨vs'.set j v, upd_same, d'.set j (d1.mono e2)⟩ k3 trivial (fun z => z))⟩⟩)
theorem get_list : PGet X (fun x y H Q => ∃ p xs i v, x = .ref p ∧ y = .int i ∧ SqL X.K H p xs ∧ 0 ≤ i ∧ atI xs i = some v ∧ Q v H) := by
  intro pins s σ H x y v u Q I rx ry h
  obtain ⟨p, xs, i, z, rfl, rfl, hq, h0, he, q⟩ := h
  cases rx
  obtain ⟨t, rfl⟩ := ry
  obtain ⟨its, r, pl, hz⟩ := I.list hq
  obtain ⟨j, h1, h2, h3, h4, h5⟩ := atI_get he
  obtain ⟨w, ew, rw'⟩ := r.get h2
  have hj : i.toNat = j := by
    rw [seqIndex_of h0 h5] at h1
    exact Option.some.inj h1
  have hn := line63
  exact wpAny_getItem_list pl.isList h0 (by omega) (by rw [hj]; simpa using ew) ⟨z, H, I, rw', q⟩
/-- xs[i] op= e -/
theorem q_putA (i : Nat) {n : Str} {p tp : Pos} {k : Int} {j : Nat} {op : Operator} {r : R2} {x0 : B} (hop : PIp X op r) (hi : EB C X b ρ (.int k) ρ) (hk : 0 ≤ k) (hj : ixN xs.length k = some j) (hx : atI xs k = some x0) (he : EB C X e ρ x ρ) (ho : Op2 C r x0 x y)
    (q : SB C X rest (ρ.set i (.ow (.lst (xs.set j y)))) post) (h : ρ[i]? = some (.ow (.lst xs)) := by rfl) (hN : X.N[i]? = some n := by rfl)
    (hv : Vis X.env.scope n := by first | exact Or.inl rfl | exact Or.inr (Or.inl rfl) | exact Or.inr (Or.inr rfl)) (hd : (n == ("__debug__" : Str)) = false := by decide) (hcd : (n == ("__classdict__" : Str)) = false := by decide)
    (ha : ∀ ov iv new, augStore b ov iv new = (do holding [new, ov, iv] (setItem ov iv new); release [new, ov, iv] []; pure .next) := by intros; rfl) : SB C X (.AugAssign (.Subscript (.Name n p) b tp) op e pos :: rest) ρ post :=
  q_cons (ps_mono (ps_augS (pe_var hN hv hd hcd) hi get_list he hop set_list ha) fun D σ H ⟨β, H0, V, K⟩ => by
    obtain ⟨p1, h1, h2, ⟨vs, h3, d⟩, h4⟩ := V.ow i _ h
    refine ⟨_, h1, β, H0, V, fun u H2 H2' e2 V2 d2 => ?_⟩
    cases d2
    obtain ⟨p2, k1, k2, ⟨vs', k3, d'⟩, k4⟩ := V2.ow i _ h
    rw [h1] at k1
    cases k1
    obtain ⟨w, w1, w2⟩ := den_atI d' hx
    refine ⟨p1, vs', k, w, rfl, rfl, .inl (.inl k3), hk, w1, β, H2, V2, fun v H3 H3' e3 V3 d3 => ?_⟩
    refine ho H3 H3' w v _ (w2.mono e3) d3 V3.ex fun z H4 H4' s d4 => ?_
    have V4 := V3.stp s
    obtain ⟨p3, l1, l2, ⟨vs3, l3, d3'⟩, l4⟩ := V4.ow i _ h
    rw [h1] at l1
    cases l1
    exact ⟨p1, vs3, k, j, rfl, rfl, l3, by rw [d3'.len]; exact hj, K.1 _ q σ H4 _ ((e2.trans e3).trans s.e0) (V4.write (b' := .lst _) h h1 ⟨vs3.set j z, upd_same, d3'.set j d4⟩ l3 trivial (fun z => z))⟩)
/-- x op= e, x shared -/
theorem q_aug (i : Nat) {n : Str} {p : Pos} {op : Operator} {r : R2} {x0 : B} (hop : PIp X op r) (he : EB C X e ρ x ρ) (ho : Op2 C r x0 x y) (hN : X.N.Nodup) (q : SB C X rest (ρ.set i (.va y)) post) (h : ρ[i]? = some (.va x0) := by rfl) (hi : X.N[i]? = some n := by rfl)
    (hx : Loc X.env.scope n := by first | exact Or.inl rfl | exact Or.inr rfl) (hf : X.fn n = true ∨ X.env.scope.names.lookup n = some .local := by first | exact .inl rfl | exact .inr rfl) : SB C X (.AugAssign (.Name n p) op e pos :: rest) ρ post :=
  q_cons (ps_mono (ps_aug hN hi hx he hop hf) fun D σ H ⟨β, H0, V, K⟩ => by
    obtain ⟨w, w1, w2⟩ := V.va i _ h
    refine ⟨w, w1, β, H0, V, fun v H1 H1' e1 V1 d1 => ?_⟩
    exact ho H1 H1' w v _ (w2.mono e1) d1 V1.ex fun z H2 H2' s d2 => K.1 _ q _ H2 H2' (e1.trans s.e0) ((V1.stp s).set d2))

/-! ### two targets at once -/
def noOw : List Sl → Prop
  | [] => True
  | .ow _ :: _ => False
  | .tk _ :: _ => False
  | .un :: r => noOw r
  | .va _ :: r => noOw r
theorem no_ow : ∀ {ρ : List Sl} {i : Nat} {c : OB}, noOw ρ → ρ[i]? = some (.ow c) → False
  | [], _, _, _, h => by simp at h
  | .ow _ :: _, _, _, h, _ => h
  | .un :: r, 0, _, _, e => by cases Option.some.inj e
  | .tk _ :: r, 0, _, _, e => by cases Option.some.inj e
  | .tk _ :: r, i + 1, c, h, e => h.elim
  | .va _ :: r, 0, _, _, e => by cases Option.some.inj e
  | .un :: r, i + 1, c, h, e => no_ow (ρ := r) (i := i) (c := c) h e
  | .va _ :: r, i + 1, c, h, e => no_ow (ρ := r) (i := i) (c := c) h e
theorem no_tk : ∀ {ρ : List Sl} {i : Nat} {T : List (Addr × Str)}, noOw ρ → ρ[i]? = some (.tk T) → False
  | [], _, _, _, h => by simp at h
  | .ow _ :: _, _, _, h, _ => h
  | .tk _ :: _, _, _, h, _ => h
  | .un :: r, 0, _, _, e => by cases Option.some.inj e
  | .va _ :: r, 0, _, _, e => by cases Option.some.inj e
  | .un :: r, i + 1, c, h, e => no_tk (ρ := r) (i := i) (T := c) h e
  | .va _ :: r, i + 1, c, h, e => no_tk (ρ := r) (i := i) (T := c) h e
theorem q_par (i j : Nat) {n m : Str} {px py pt : Pos} {kt k2 : Nat} {pt2 : Pos} (ha : EB C X a ρ x ρ1) (hb : EB C X b ρ1 y ρ2) (hc : X.calm = true) (hN : X.N.Nodup) (k : SB C X rest ((ρ2.set i (.va x)).set j (.va y)) post) (hij : i ≠ j := by decide) (hi : X.N[i]? = some n := by rfl) (hj : X.N[j]? = some m := by rfl)
    (hx : X.env.scope.names.lookup n = some .local := by rfl) (hy : X.env.scope.names.lookup m = some .local := by rfl) (hw : swappedStores [.Tuple [.Name n px, .Name m py] kt pt] (.Tuple [a, b] k2 pt2) X.env = pure (some [n, m]) := by rfl)
    (hs : swapsWithSole [.Tuple [.Name n px, .Name m py] kt pt] (.Tuple [a, b] k2 pt2) pos.line X.env = pure false := by rfl)
    (hst : starEach [a, b] X.env = (false, eval a X.env) :: starEach [b] X.env := by rfl) (hst2 : starEach [b] X.env = [(false, eval b X.env)] := by rfl) : SB C X (.Assign [.Tuple [.Name n px, .Name m py] kt pt] (.Tuple [a, b] k2 pt2) pos :: rest) ρ post :=
  q_cons (ps_mono (ps_par hc hN hi hj hij hx hy (a_cons ha (a_cons hb a_nil hst2) hst) hw hs) fun D σ H ⟨β, H0, V, K⟩ => ⟨β, H0, V, fun vs H1 H1' e1 V1 d1 => by
    cases d1 with
    | cons d1 d2 =>
      cases d2 with
      | cons d2 d3 =>
        cases d3
        exact ⟨_, _, rfl, K.1 _ k _ H1 H1' e1 ((V1.set d1).set d2)⟩⟩)
/-- the second (or both) a new list, owned -/
theorem q_parVO (i j : Nat) {n m : Str} {px py pt : Pos} {kt k2 : Nat} {pt2 : Pos} {o : OB} (ha : EB C X a ρ x ρ1) (hb : FB C X b ρ1 o ρ2) (hc : X.calm = true) (hN : X.N.Nodup) (k : SB C X rest ((ρ2.set i (.va x)).set j (.ow o)) post) (hij : i ≠ j := by decide) (hi : X.N[i]? = some n := by rfl) (hj : X.N[j]? = some m := by rfl)
    (hx : X.env.scope.names.lookup n = some .local := by rfl) (hy : X.env.scope.names.lookup m = some .local := by rfl) (hw : swappedStores [.Tuple [.Name n px, .Name m py] kt pt] (.Tuple [a, b] k2 pt2) X.env = pure (some [n, m]) := by rfl)
    (hs : swapsWithSole [.Tuple [.Name n px, .Name m py] kt pt] (.Tuple [a, b] k2 pt2) pos.line X.env = pure false := by rfl)
    (hst : starEach [a, b] X.env = (false, eval a X.env) :: starEach [b] X.env := by rfl) (hst2 : starEach [b] X.env = [(false, eval b X.env)] := by rfl) (h0 : j ≠ 0 := by decide) (pl : o.pl = true := by rfl) : SB C X (.Assign [.Tuple [.Name n px, .Name m py] kt pt] (.Tuple [a, b] k2 pt2) pos :: rest) ρ post :=
  q_cons (ps_mono (ps_par hc hN hi hj hij hx hy (L2.pa_cons ha (L2.pa_cons hb L2.pa_nil hst2) hst) hw hs) fun D σ H ⟨β, H0, V, K⟩ => ⟨β, H0, V, fun v H1 H1' e1 V1 d1 => ⟨β, H1, V1, fun p H2 H2' e2 V2 f1 f2 f3 f4 => by
    refine ⟨_, _, rfl, K.1 _ k _ H2 H2' (e1.trans e2) ((V2.set (d1.mono e2)).own f1 f2 (.new f3 h0 pl) fun l c hl => ?_)⟩
    by_cases hli : i = l
    · subst hli
      have hh : i < ρ2.length := by
        have := (List.getElem?_eq_some_iff.mp hl).1
        rw [List.length_set] at this
        exact this
      rw [List.getElem?_set_self hh] at hl
      cases hl
    · rw [List.getElem?_set_ne hli] at hl
      rw [List.getElem?_set_ne hli]
      exact f4 l c hl⟩⟩)
theorem q_parOO (i j : Nat) {n m : Str} {px py pt : Pos} {kt k2 : Nat} {pt2 : Pos} {o1 o2 : OB} (ha : FB C X a ρ o1 ρ) (hb : FB C X b ρ o2 ρ) (hc : X.calm = true) (hN : X.N.Nodup) (hno : noOw ρ) (k : SB C X rest ((ρ.set i (.ow o1)).set j (.ow o2)) post) (hij : i ≠ j := by decide) (hi : X.N[i]? = some n := by rfl) (hj : X.N[j]? = some m := by rfl)
    (hx : X.env.scope.names.lookup n = some .local := by rfl) (hy : X.env.scope.names.lookup m = some .local := by rfl) (hw : swappedStores [.Tuple [.Name n px, .Name m py] kt pt] (.Tuple [a, b] k2 pt2) X.env = pure (some [n, m]) := by rfl)
    (hs : swapsWithSole [.Tuple [.Name n px, .Name m py] kt pt] (.Tuple [a, b] k2 pt2) pos.line X.env = pure false := by rfl)
    (hst : starEach [a, b] X.env = (false, eval a X.env) :: starEach [b] X.env := by rfl) (hst2 : starEach [b] X.env = [(false, eval b X.env)] := by rfl) (h0 : i ≠ 0 := by decide) (h1 : j ≠ 0 := by decide) (pl1 : o1.pl = true := by rfl) (pl2 : o2.pl = true := by rfl) : SB C X (.Assign [.Tuple [.Name n px, .Name m py] kt pt] (.Tuple [a, b] k2 pt2) pos :: rest) ρ post :=
  q_cons (ps_mono (ps_par hc hN hi hj hij hx hy (L2.pa_cons ha (L2.pa_cons hb L2.pa_nil hst2) hst) hw hs) fun D σ H ⟨β, H0, V, K⟩ => ⟨β, H0, V, fun p H1 H1' e1 V1 f1 f2 f3 f4 => by
    have hb : Blk ρ [] ρ := ⟨rfl, fun l c h => ⟨h, by simp⟩, fun l c h => no_ow hno h, fun l T h => no_tk hno h⟩
    have pD : H1' p ≠ none := f2.there
    refine ⟨⟨H1, H1', fun _ => False, []⟩, H1, sat_blk V1 hb (Evl.Ex.refl _) V1.ex, fun p2 H2 H2' e2 V2 g1 g2 g3 g4 => ⟨_, _, rfl, ?_⟩⟩
    have st : Stp H1 H1' H2 H2' := ⟨e2, V2.ex, fun a h1 h2 => V2.out a h1 h2 (fun z => z)⟩
    have W := V1.stp st
    obtain ⟨r1, r2⟩ := st.out p pD f1
    have g3' : H1' p2 = none := g3
    obtain ⟨_, t2, _⟩ := V1.fresh g3'
    have ne : p ≠ p2 := fun z => pD (by rw [z]; exact g3')
    have W1 := W.own (i := i) r1 (f2.mono e2 st.out f1) (.new f3 h0 pl1) f4
    refine K.1 _ k _ H2 H2' (e1.trans e2) (W1.own g1 g2 (.new t2 h1 pl2) fun l c hl => ?_)
    by_cases hli : i = l
    · subst hli
      have hh : i < ρ.length := by
        have := (List.getElem?_eq_some_iff.mp hl).1
        rw [List.length_set] at this
        exact this
      rw [List.getElem?_set_self (by rw [W.len]; exact hh)]
      exact fun z => ne (L2.V.ref.inj (Option.some.inj (Option.some.inj z)))
    · rw [List.getElem?_set_ne hli] at hl
      exact (no_ow hno hl).elim⟩)

/-! ### loops -/
/-- how a turn may end: at the next turn's word, behind the loop, out of the def -/
def LoopP (nxt : List Sl → Prop) (post : Out → Prop) : Out → Prop
  | .nx ρ => ∃ ρ', Weak ρ ρ' ∧ nxt ρ'
  | .ct ρ => ∃ ρ', Weak ρ ρ' ∧ nxt ρ'
  | .bk ρ => post (.nx ρ)
  | .rt b ρ => post (.rt b ρ)
  | .rf bs ρ => post (.rf bs ρ)
theorem s_for {tg iter : Expr} {body : List Stmt} (W : Nat → List Sl → Prop) (hp : PassesOwn (model X.prog X.w) X.A X.env X.xe) (hc : X.calm = true) (hi : VB C X tg iter ρ xs ρ1) (h0 : ∃ ρ', Weak ρ1 ρ' ∧ W 0 ρ')
    (hs : ∀ i x ρ', xs[i]? = some x → W i ρ' → ∃ ρ'' js, GB C X tg ρ' x ρ'' js ∧ SB C X body ρ'' (LoopP (W (i + 1)) post)) (hd : ∀ ρ', W xs.length ρ' → post (.nx ρ')) (hf : ∀ x, foldedSetIterable iter X.env x = pure x := by intro _; rfl) :
    S1 C X (.For tg iter body [] pos) ρ post := by
  refine ps_mono (ps_for hp hc hi (g := fun v σ H Q => ∃ ρ x ρ' js, GB C X tg ρ x ρ' js ∧ gOf C ρ x ρ' js v σ H Q) (tb := fun D σ H => ∃ ρ po, SB C X body ρ po ∧ sOf C ρ po D σ H) ⟨fun pins s σ H v u Q I r ⟨ρ, x, ρ', js, g, q⟩ => g.run pins s σ H v u Q I r q⟩
    ⟨fun pins s σ H D I ⟨ρ, po, g, q⟩ => g.run pins s σ H D I q⟩ hf) ?_
  intro D σ H ⟨β, H0, V, K⟩
  refine ⟨β, H0, V, fun J H1 H1' e1 V1 Y => ?_⟩
  obtain ⟨ρs, ws, w0⟩ := h0
  refine ⟨fun i m σ' H' => m = xs.length - i ∧ i ≤ xs.length ∧ ∃ ρ' Hc, W i ρ' ∧ Ex H1 Hc ∧ Sat C β σ' Hc H' ρ', ⟨xs.length, by simp, Nat.zero_le _, ρs, H1, w0, Evl.Ex.refl _, V1.weak ws⟩, ?_⟩
  rintro i m σ' H' ⟨rfl, hi', ρ', Hc, w, c1, V2⟩
  by_cases hlt : i < xs.length
  · refine .inr ⟨Y.go i H' (c1.trans V2.ex) hlt, fun σ2 H2 => i + 1 ≤ xs.length ∧ ∃ ρ2 Hc2, W (i + 1) ρ2 ∧ Ex H1 Hc2 ∧ Sat C β σ2 Hc2 H2 ρ2, fun σ2 H2 h => ⟨xs.length - (i + 1), by omega, rfl, h⟩, fun v H2 y => ?_⟩
    have hx : xs[i]? = some xs[i] := List.getElem?_eq_getElem hlt
    obtain ⟨Hd, sd, dx⟩ := Y.yld i H' v H2 Hc c1 V2.ex y xs[i] hx
    obtain ⟨ρ'', js, hg, hb⟩ := hs i _ ρ' hx w
    refine ⟨ρ', xs[i], ρ'', js, hg, β, Hd, V2.stp sd, dx, fun σ3 H3 H3' e3 V3 _ => ⟨ρ'', _, hb, β, H3, V3, ?_, ?_, ?_, ?_, ?_⟩⟩
    · intro ρ4 ⟨ρ5, w5, q5⟩ σ4 H4 H4' e4 V4
      exact ⟨hlt, ρ5, H4, q5, ((c1.trans sd.e0).trans e3).trans e4, V4.weak w5⟩
    · intro b ρ4 q4 v4 σ4 H4 H4' e4 V4 d4
      exact K.2.1 b ρ4 q4 v4 σ4 H4 H4' ((((e1.trans c1).trans sd.e0).trans e3).trans e4) V4 d4
    · intro ρ4 q4 σ4 H4 H4' e4 V4
      exact K.1 ρ4 q4 σ4 H4 H4' ((((e1.trans c1).trans sd.e0).trans e3).trans e4) V4
    · intro ρ4 ⟨ρ5, w5, q5⟩ σ4 H4 H4' e4 V4
      exact ⟨hlt, ρ5, H4, q5, ((c1.trans sd.e0).trans e3).trans e4, V4.weak w5⟩
    · intro bs ρ4 q4 p σ4 H4 H4' e4 V4 f1 f2 f3
      exact K.2.2.2.2 bs ρ4 q4 p σ4 H4 H4' ((((e1.trans c1).trans sd.e0).trans e3).trans e4) V4 f1 f2 f3
  · have e : i = xs.length := by omega
    subst e
    exact .inl ⟨Y.stop H' (c1.trans V2.ex), K.1 ρ' (hd ρ' w) σ' Hc H' (e1.trans c1) V2⟩
/-- for x in xs -/
theorem q_for {tg iter : Expr} {body : List Stmt} (W : Nat → List Sl → Prop) (hp : PassesOwn (model X.prog X.w) X.A X.env X.xe) (hc : X.calm = true) (hi : VB C X tg iter ρ xs ρ1) (h0 : ∃ ρ', Weak ρ1 ρ' ∧ W 0 ρ')
    (hs : ∀ i x ρ', xs[i]? = some x → W i ρ' → ∃ ρ'' js, GB C X tg ρ' x ρ'' js ∧ SB C X body ρ'' (LoopP (W (i + 1)) (Thn C X rest post))) (hd : ∀ ρ', W xs.length ρ' → SB C X rest ρ' post) (hf : ∀ x, foldedSetIterable iter X.env x = pure x := by intro _; rfl) :
    SB C X (.For tg iter body [] pos :: rest) ρ post := q_cons (s_for W hp hc hi h0 hs hd hf)
/-- while, by a word and a measure -/
theorem q_while {c : Expr} {body : List Stmt} (W : Nat → List Sl → Prop) (hp : PassesOwn (model X.prog X.w) X.A X.env X.xe) (h0 : ∃ m ρ', Weak ρ ρ' ∧ W m ρ')
    (hs : ∀ m ρ', W m ρ' → ∃ k ρ1, CB C X c ρ' k ρ1 ∧ (k = true → SB C X body ρ1 (LoopP (fun ρ => ∃ m', m' < m ∧ W m' ρ) (Thn C X rest post))) ∧ (k = false → SB C X rest ρ1 post)) : SB C X (.While c body [] pos :: rest) ρ post := by
  refine q_cons (ps_mono (ps_while hp (tc := fun σ H Q => ∃ ρ k ρ1, CB C X c ρ k ρ1 ∧ cOf C ρ k ρ1 σ H Q) (tb := fun D σ H => ∃ ρ po, SB C X body ρ po ∧ sOf C ρ po D σ H) ⟨fun pins s σ H Q I ⟨ρ, k, ρ1, g, q⟩ => g.run pins s σ H Q I q⟩
    ⟨fun pins s σ H D I ⟨ρ, po, g, q⟩ => g.run pins s σ H D I q⟩) ?_)
  intro D σ H ⟨β, H0, V, K⟩
  obtain ⟨m0, ρs, ws, w0⟩ := h0
  refine ⟨fun m σ' H' => ∃ ρ' Hc, W m ρ' ∧ Ex H0 Hc ∧ Sat C β σ' Hc H' ρ', ⟨m0, ρs, H0, w0, Evl.Ex.refl _, V.weak ws⟩, ?_⟩
  rintro m σ' H' ⟨ρ', Hc, w, c1, V2⟩
  obtain ⟨k, ρ1, hc, ht, hf⟩ := hs m ρ' w
  refine ⟨ρ', k, ρ1, hc, β, Hc, V2, fun H3 H3' e3 V3 => ?_⟩
  cases k with
  | true =>
    refine iteT ⟨fun σ4 H4 => ∃ m', m' < m ∧ ∃ ρ4 Hd, W m' ρ4 ∧ Ex H0 Hd ∧ Sat C β σ4 Hd H4 ρ4, fun σ4 H4 ⟨m', l, h⟩ => ⟨m', l, h⟩, ρ1, _, ht rfl, β, H3, V3, ?_, ?_, ?_, ?_, ?_⟩
    · intro ρ4 ⟨ρ5, w5, m', l, q5⟩ σ4 H4 H4' e4 V4
      exact ⟨m', l, ρ5, H4, q5, (c1.trans e3).trans e4, V4.weak w5⟩
    · intro b ρ4 q4 v4 σ4 H4 H4' e4 V4 d4
      exact K.2.1 b ρ4 q4 v4 σ4 H4 H4' ((c1.trans e3).trans e4) V4 d4
    · intro ρ4 q4 σ4 H4 H4' e4 V4
      exact K.1 ρ4 q4 σ4 H4 H4' ((c1.trans e3).trans e4) V4
    · intro ρ4 ⟨ρ5, w5, m', l, q5⟩ σ4 H4 H4' e4 V4
      exact ⟨m', l, ρ5, H4, q5, (c1.trans e3).trans e4, V4.weak w5⟩
    · intro bs ρ4 q4 p σ4 H4 H4' e4 V4 f1 f2 f3
      exact K.2.2.2.2 bs ρ4 q4 p σ4 H4 H4' ((c1.trans e3).trans e4) V4 f1 f2 f3
  | false => exact iteF (K.1 ρ1 (hf rfl) σ' H3 H3' (c1.trans e3) V3)

/-! ### a def of the text -/
/-- the end of a pure def's body -/
def endO (r : B) : Out → Prop
  | .rt b _ => b = r
  | .nx _ => r = .non
  | _ => False
def slots (n : Nat) (bs : List B) : List Sl := bs.map Sl.va ++ List.replicate (n - bs.length) .un
theorem start_get {N : List Str} {vs : List V} {bs : List B} {H : Hp} (d : DenAll C H vs bs) {i : Nat} {b : B} (h : (slots N.length bs)[i]? = some (.va b)) : ∃ v, (L2.start N vs)[i]? = some (some v) ∧ Den C H v b := by
  unfold slots at h
  unfold L2.start
  by_cases hi : i < bs.length
  · rw [List.getElem?_append_left (by simpa using hi), List.getElem?_map] at h
    cases e : bs[i]? with
    | none => rw [e] at h; cases h
    | some c =>
      rw [e] at h
      cases Option.some.inj h
      obtain ⟨v, h1, h2⟩ := d.get e
      exact ⟨v, by rw [List.getElem?_append_left (by rw [List.length_map, d.len]; exact hi), List.getElem?_map, h1]; rfl, h2⟩
  · rw [List.getElem?_append_right (by simpa using hi), List.getElem?_replicate] at h
    split at h <;> cases h
theorem start_ow {n : Nat} {bs : List B} {i : Nat} {b : OB} (h : (slots n bs)[i]? = some (.ow b)) : False := by
  unfold slots at h
  by_cases hi : i < bs.length
  · rw [List.getElem?_append_left (by simpa using hi), List.getElem?_map] at h
    cases e : bs[i]? with
    | none => rw [e] at h; cases h
    | some c => rw [e] at h; cases h
  · rw [List.getElem?_append_right (by simpa using hi), List.getElem?_replicate] at h
    split at h <;> cases h
end
section
variable {P : Program} {w : World} {K : PySem.W.Frag} {mg : Str → Option Value} {base : Heap} {C : Ct}
theorem start_tk {n : Nat} {bs : List B} {i : Nat} {T : List (Addr × Str)} (h : (slots n bs)[i]? = some (.tk T)) : False := by
  unfold slots at h
  by_cases hi : i < bs.length
  · rw [List.getElem?_append_left (by simpa using hi), List.getElem?_map] at h
    cases e : bs[i]? with
    | none => rw [e] at h; cases h
    | some c => rw [e] at h; cases h
  · rw [List.getElem?_append_right (by simpa using hi), List.getElem?_replicate] at h
    split at h <;> cases h
theorem sat_start {N : List Str} {vs : List V} {bs : List B} {H0 H : Hp} (e : Ex H0 H) (d : DenAll C H0 vs bs) (hl : bs.length ≤ N.length) : Sat C ⟨H0, H, fun _ => False, []⟩ (L2.start N vs) H0 H (slots N.length bs) where
  tb := ⟨fun q hq => absurd hq (by simp), fun q hq => absurd hq (by simp)⟩
  tk := fun i T h => (start_tk h).elim
  exb := Evl.Ex.refl _
  ex := e
  out := fun a _ h _ => ⟨h, rfl⟩
  bo := fun a h => h.elim
  bE := fun a h => h.elim
  len := by unfold L2.start slots; simp [d.len]
  va := fun i b h => start_get d h
  ow := fun i b h => (start_ow h).elim
  sep := fun i j bi bj p h => (start_ow h).elim
/-- THE RULE of a pure def -/
theorem def_ok {x qual : Str} {st : Stmt} {f : Addr} {fd : FuncData} {N ps : List Str} {k : Nat} {R : List B → B → Prop} (F : Fun K x qual st f fd) (S : FnScope N ps (defScope st)) (hb : Binds K fd ps []) (len : ∀ bs r, R bs r → bs.length = ps.length)
    (hbody : ∀ (cdv : Value) (A : Around) (outer : List PySem.Env) (s : Shared) (H : Hp) (E : XK) (bs : List B) (r : B), Room k (A.deeper (envOfC qual (defScope st) s.heap.objs.size f cdv)) → R bs r →
      SB C (cxOf CX0 P w K mg base N qual (defScope st) f cdv A outer s H E).nox (defBody st) (slots N.length bs) (endO r)) : FnR P w K mg base CX0 (k + 1) f (spR C R) := by
  have hpl : ps.length ≤ N.length := by have := congrArg List.length S.pre; rw [List.length_take] at this; omega
  have G : FnOk P w K mg base CX0 (k + 1) f fd ps (spR C R) := by
    refine F.ok S (fun vs H Q E h => ?_) (fun cdv A outer s H vs Q E hr h => ?_)
    · obtain ⟨H0, bs, r, _, d, hR, _⟩ := h
      rw [d.len]
      exact len bs r hR
    · obtain ⟨H0, bs, r, e, d, hR, q⟩ := h
      refine ⟨_, hbody cdv A outer s H E bs r hr hR, ⟨H0, H, fun _ => False, []⟩, H0, sat_start e d (by rw [len bs r hR]; exact hpl), ?_, ?_, ?_, ?_, ?_⟩
      · intro ρ' p σ' G G' g W
        have er : r = .non := p
        subst er
        exact q .non G G' ⟨g, W.ex, fun a h1 h2 => W.out a h1 h2 (fun z => z)⟩ .non
      · intro b ρ' p v σ' G G' g W dv
        have er : b = r := p
        subst er
        exact q v G G' ⟨g, W.ex, fun a h1 h2 => W.out a h1 h2 (fun z => z)⟩ dv
      · intro ρ' p
        exact p.elim
      · intro ρ' p
        exact p.elim
      · intro bs ρ' p
        exact p.elim
  have z := G.raw hb .nil
  simp only [List.append_nil] at z
  exact z
end
end Q
end

/-! text LayG -/
section
set_option Elab.async false
set_option linter.all false
set_option maxRecDepth 100000
/-! built-in calls, equality, texts -/
namespace Q
open PySem PySem.Spec PyProof.Rows L2
section
variable {X : Cx} {C : Ct} {e a b : Expr} {es : List Expr} {ρ ρ1 ρ2 ρ3 : List Sl} {x y z : B} {xs ys bs : List B} {pos p p2 : Pos}
abbrev iB (xs : List Int) : List B := xs.map B.int
abbrev il (xs : List Int) : B := .lst (iB xs)
abbrev it (xs : List Int) : B := .tup (iB xs)
abbrev sq (k : Bool) (xs : List Int) : B := seqB k (iB xs)
theorem den_seq {H0 H : Hp} {v : V} {k : Bool} (e : Ex H0 H) (d : Den C H0 v (seqB k xs)) : ∃ q vs, v = .ref q ∧ DenAll C H0 vs xs ∧ (SqL X.K H q vs ∨ SqT X.K H q vs) := by
  cases k with
  | true => cases d with
    | lst h r => exact ⟨_, _, rfl, r, .inl (.inl (.inl (e _ _ h)))⟩
  | false => cases d with
    | tup h r => exact ⟨_, _, rfl, r, .inr (.inl (.inl (e _ _ h)))⟩

/-! ### len, list, tuple -/
theorem e_len (k : Bool) (hm : X.mg "len" = none) (ha : EB C X a ρ (seqB k xs) ρ1) (hg : Gl X "len" := by rfl) (hs : starEach [a] X.env = [(false, eval a X.env)] := by rfl) : EB C X (.Call (.Name "len" p) [a] [] pos) ρ (.int (xs.length : Int)) ρ1 :=
  e_callB call_len_seq hm PySem.boot_len (a_cons ha a_nil hs) (fun H0 H vs Q d ex q => by
    cases d with
    | cons d r =>
      cases r
      obtain ⟨c, us, rfl, r, h⟩ := den_seq (X := X) ex d
      refine ⟨c, us, rfl, h, ?_⟩
      rw [r.len]
      exact q _ H0 H (Stp.refl ex) (.int _)) hg (by decide) (by decide) hs rfl
theorem e_lenScr {ns : List Int} (hK : X.K = C.K) (hm : X.mg "len" = none) (ha : EB C X a ρ (.scr ns) ρ1) (hg : Gl X "len" := by rfl) (hs : starEach [a] X.env = [(false, eval a X.env)] := by rfl) : EB C X (.Call (.Name "len" p) [a] [] pos) ρ (.int (ns.length : Int)) ρ1 :=
  e_callB call_len_seq hm PySem.boot_len (a_cons ha a_nil hs) (fun H0 H vs Q d ex q => by
    cases d with
    | cons d r =>
      cases r
      cases d with
      | scr h =>
        refine ⟨_, _, rfl, .inl (by rw [hK]; exact Evl.ex_l ex h), ?_⟩
        rw [List.length_map]
        exact q _ H0 H (Stp.refl ex) (.int _)) hg (by decide) (by decide) hs rfl
/-- an owned list's length -/
theorem e_lenO (i : Nat) {n : Str} {q : Pos} (hm : X.mg "len" = none) (hρ : ρ[i]? = some (.ow (.lst xs)) := by rfl) (hN : X.N[i]? = some n := by rfl) (hv : Vis X.env.scope n := by first | exact Or.inl rfl | exact Or.inr (Or.inl rfl) | exact Or.inr (Or.inr rfl)) (hg : Gl X "len" := by rfl)
    (hd : (n == ("__debug__" : Str)) = false := by decide) (hcd : (n == ("__classdict__" : Str)) = false := by decide) (hs : starEach [.Name n q] X.env = [(false, eval (.Name n q) X.env)] := by rfl) : EB C X (.Call (.Name "len" p) [.Name n q] [] pos) ρ (.int (xs.length : Int)) ρ :=
  pe_mono (pe_callB call_len_seq hg hm PySem.boot_len (L2.pa_cons (pe_var hN hv hd hcd) L2.pa_nil hs) (by decide) (by decide) hs rfl) fun σ H Q ⟨β, H0, V, k⟩ => by
    obtain ⟨p1, h1, h2, ⟨vs, h3, d⟩, h4⟩ := V.ow i _ hρ
    refine ⟨_, h1, p1, vs, rfl, .inl (.inl (.inl h3)), ?_⟩
    rw [d.len]
    exact k _ H0 H (Evl.Ex.refl _) V (.int _)
theorem f_list (k : Bool) (hm : X.mg "list" = none) (ha : EB C X a ρ (seqB k xs) ρ1) (hg : Gl X "list" := by rfl) (hs : starEach [a] X.env = [(false, eval a X.env)] := by rfl) : FB C X (.Call (.Name "list" p) [a] [] pos) ρ (.lst xs) ρ1 :=
  f_callTy call_list_of hm (by decide +kernel) (a_cons ha a_nil hs) (fun H0 H vs Q d ex q => by
    cases d with
    | cons d r =>
      cases r
      obtain ⟨c, us, rfl, r, h⟩ := den_seq (X := X) ex d
      exact ⟨c, us, rfl, h, fun l hl => q l us hl r⟩) hg (by decide) (by decide) hs rfl
theorem e_tuple (k : Bool) (hm : X.mg "tuple" = none) (ha : EB C X a ρ (seqB k xs) ρ1) (hg : Gl X "tuple" := by rfl) (hs : starEach [a] X.env = [(false, eval a X.env)] := by rfl) : EB C X (.Call (.Name "tuple" p) [a] [] pos) ρ (.tup xs) ρ1 :=
  e_callTy call_tuple_of hm (by decide +kernel) (a_cons ha a_nil hs) (fun H0 H vs Q d ex q => by
    cases d with
    | cons d r =>
      cases r
      cases k with
      | true => cases d with
        | @lst c us _ h r =>
          refine ⟨c, us, rfl, .inl ⟨.inl (.inl (ex _ _ h)), fun l hl => ?_⟩⟩
          have s := Stp.new (o := .tup us) ex hl
          exact q _ _ _ s (.tup upd_same (r.mono s.e0))
      | false => cases d with
        | @tup c us _ h r => exact ⟨c, us, rfl, .inr ⟨.inl (.inl (ex _ _ h)), q _ H0 H (Stp.refl ex) (.tup h r)⟩⟩) hg (by decide) (by decide) hs rfl

/-! ### whole numbers -/
theorem one_den {H : Hp} {vs : List V} (d : DenAll C H vs [x]) : ∃ v, vs = [v] ∧ Den C H v x := by
  cases d with
  | cons d r =>
    cases r
    exact ⟨_, rfl, d⟩
theorem two_den {H : Hp} {vs : List V} (d : DenAll C H vs [x, y]) : ∃ v w, vs = [v, w] ∧ Den C H v x ∧ Den C H w y := by
  cases d with
  | cons d r =>
    obtain ⟨w, rfl, dw⟩ := one_den r
    exact ⟨_, w, rfl, d, dw⟩
theorem den_int {H : Hp} {v : V} {i : Int} (d : Den C H v (.int i)) : v = .int i := by
  cases d
  rfl
theorem e_intI {i : Int} (hm : X.mg "int" = none) (ha : EB C X a ρ (.int i) ρ1) (hg : Gl X "int" := by rfl) (hs : starEach [a] X.env = [(false, eval a X.env)] := by rfl) : EB C X (.Call (.Name "int" p) [a] [] pos) ρ (.int i) ρ1 :=
  e_callTy call_int1 hm (by decide +kernel) (a_cons ha a_nil hs) (fun H0 H vs Q d ex q => by
    obtain ⟨v, rfl, dv⟩ := one_den d
    cases den_int dv
    exact .inl ⟨i, rfl, q _ H0 H (Stp.refl ex) (.int _)⟩) hg (by decide) (by decide) hs rfl
theorem e_intB {k : Bool} (hm : X.mg "int" = none) (ha : EB C X a ρ (.bl k) ρ1) (hg : Gl X "int" := by rfl) (hs : starEach [a] X.env = [(false, eval a X.env)] := by rfl) : EB C X (.Call (.Name "int" p) [a] [] pos) ρ (.int (if k then 1 else 0)) ρ1 :=
  e_callTy call_int1 hm (by decide +kernel) (a_cons ha a_nil hs) (fun H0 H vs Q d ex q => by
    obtain ⟨v, rfl, dv⟩ := one_den d
    cases dv
    exact .inr ⟨k, rfl, q _ H0 H (Stp.refl ex) (.int _)⟩) hg (by decide) (by decide) hs rfl
theorem e_abs {i : Int} (hm : X.mg "abs" = none) (ha : EB C X a ρ (.int i) ρ1) (hg : Gl X "abs" := by rfl) (hs : starEach [a] X.env = [(false, eval a X.env)] := by rfl) : EB C X (.Call (.Name "abs" p) [a] [] pos) ρ (.int (if i < 0 then -i else i)) ρ1 :=
  e_callB call_abs hm (by decide +kernel) (a_cons ha a_nil hs) (fun H0 H vs Q d ex q => by
    obtain ⟨v, rfl, dv⟩ := one_den d
    cases den_int dv
    exact ⟨i, rfl, q _ H0 H (Stp.refl ex) (.int _)⟩) hg (by decide) (by decide) hs rfl
theorem e_max2 {i j : Int} (hc : X.calm = true) (hm : X.mg "max" = none) (ha : EB C X a ρ (.int i) ρ1) (hb : EB C X b ρ1 (.int j) ρ2) (hg : Gl X "max" := by rfl) (hs : starEach [a, b] X.env = (false, eval a X.env) :: starEach [b] X.env := by rfl) (hs2 : starEach [b] X.env = [(false, eval b X.env)] := by rfl)
    (hpl : (backTo pos (starEach [b] X.env)).any (·.1) = false := by rfl) : EB C X (.Call (.Name "max" p) [a, b] [] pos) ρ (.int (if j > i then j else i)) ρ2 :=
  e_callB (call_max2 hc) hm (by decide +kernel) (a_cons ha (a_cons hb a_nil hs2) hs) (fun H0 H vs Q d ex q => by
    obtain ⟨v, w, rfl, dv, dw⟩ := two_den d
    cases den_int dv
    cases den_int dw
    exact ⟨i, j, rfl, q _ H0 H (Stp.refl ex) (.int _)⟩) hg (by decide) (by decide) hs hpl
theorem e_min2 {i j : Int} (hc : X.calm = true) (hm : X.mg "min" = none) (ha : EB C X a ρ (.int i) ρ1) (hb : EB C X b ρ1 (.int j) ρ2) (hg : Gl X "min" := by rfl) (hs : starEach [a, b] X.env = (false, eval a X.env) :: starEach [b] X.env := by rfl) (hs2 : starEach [b] X.env = [(false, eval b X.env)] := by rfl)
    (hpl : (backTo pos (starEach [b] X.env)).any (·.1) = false := by rfl) : EB C X (.Call (.Name "min" p) [a, b] [] pos) ρ (.int (if j < i then j else i)) ρ2 :=
  e_callB (call_min2 hc) hm (by decide +kernel) (a_cons ha (a_cons hb a_nil hs2) hs) (fun H0 H vs Q d ex q => by
    obtain ⟨v, w, rfl, dv, dw⟩ := two_den d
    cases den_int dv
    cases den_int dw
    exact ⟨i, j, rfl, q _ H0 H (Stp.refl ex) (.int _)⟩) hg (by decide) (by decide) hs hpl
/-- all of a list of True and False -/
theorem e_all {ks : List Bool} (hc : X.calm = true) (hm : X.mg "all" = none) (ha : EB C X a ρ (.lst (ks.map .bl)) ρ1) (hg : Gl X "all" := by rfl) (hs : starEach [a] X.env = [(false, eval a X.env)] := by rfl) : EB C X (.Call (.Name "all" p) [a] [] pos) ρ (.bl (ks.all id)) ρ1 :=
  e_callB (cr_all hc) hm (by decide +kernel) (a_cons ha a_nil hs) (fun H0 H vs Q d ex q => by
    obtain ⟨v, rfl, dv⟩ := one_den d
    cases dv with
    | lst h r =>
      have e := r.bls
      subst e
      exact ⟨_, ks, rfl, .inl (.inl (ex _ _ h)), q _ H0 H (Stp.refl ex) (.bl _)⟩) hg (by decide) (by decide) hs rfl
/-! tuples of whole numbers: any, max, min -/
theorem dp_ints (K : PySem.W.Frag) (H : Hp) : ∀ ns : List Int, DpAll K H (ns.map V.int) (ns.map PyData.int)
  | [] => .nil
  | n :: ns => .cons (.int n) (dp_ints K H ns)
theorem plain_ints : ∀ ns : List Int, PyData.plainAll (ns.map PyData.int) = true
  | [] => by first | rfl | simp [PyData.plainAll]
  | n :: ns => by
    have h := plain_ints ns
    simp [PyData.plainAll, PyData.plain, h]
theorem depth_ints : ∀ ns : List Int, PyData.depthAll (ns.map PyData.int) ≤ 1
  | [] => by simp [PyData.depthAll]
  | n :: ns => by
    have h := depth_ints ns
    rw [List.map_cons, PyData.depthAll]
    have e : PyData.depth (.int n) ≤ 1 := by first | decide | simp [PyData.depth]
    omega
theorem alike_ints (ns : List Int) : PySem.W.AlikeAll (ns.map PyData.int) := by
  refine ⟨fun x hx y hy => ?_, fun x hx => ?_⟩
  · obtain ⟨i, _, rfl⟩ := List.mem_map.mp hx
    obtain ⟨j, _, rfl⟩ := List.mem_map.mp hy
    first | rfl | simp [PySem.W.alike]
  · obtain ⟨i, _, rfl⟩ := List.mem_map.mp hx
    exact fun z => nomatch z
theorem truthy_ints (ns : List Int) : (ns.map PyData.int).any PyData.truthy = ns.any (fun n => n != 0) := by
  rw [List.any_map]
  rfl
/-- a tuple of whole numbers, max -/
def rMaxT (K : PySem.W.Frag) : List V → Hp → VK → Prop := fun vs H Q => ∃ (a : Addr) (n : Int) (ns : List Int), vs = [V.ref a] ∧ SqT K H a ((n :: ns).map V.int) ∧ Q (.int (ns.foldl max n)) H
def rMinT (K : PySem.W.Frag) : List V → Hp → VK → Prop := fun vs H Q => ∃ (a : Addr) (n : Int) (ns : List Int), vs = [V.ref a] ∧ SqT K H a ((n :: ns).map V.int) ∧ Q (.int (ns.foldl min n)) H
def rAnyT (K : PySem.W.Frag) : List V → Hp → VK → Prop := fun vs H Q => ∃ (a : Addr) (ns : List Int), vs = [V.ref a] ∧ SqT K H a (ns.map V.int) ∧ Q (.bl (ns.any fun n => n != 0)) H
theorem cr_anyT (hc : X.calm = true) : CallR X (.builtin "any") (rAnyT X.K) := by
  intro pins s σ H vs us Q I r h
  obtain ⟨a, ns, rfl, hs, q⟩ := h
  obtain ⟨its, rv, ht, _⟩ := I.tuple hs
  rw [Vals.ref1 r]
  obtain ⟨as, hr⟩ := Dp.readsAll I (ns.map PyData.int) _ its (dp_ints _ _ ns) rv
  refine PySem.W.any_tuple_data (I.ok.hd hc) (show s.heap.IsTuple a its.toArray from ht) (by rw [List.toList_toArray]; exact hr) (plain_ints ns) (fun x hx => ?_) fun h' tk k => ⟨.bl _, H, I.kept k, by rw [truthy_ints]; rfl, q⟩
  obtain ⟨i, _, rfl⟩ := List.mem_map.mp hx
  trivial
theorem cr_maxT (hc : X.calm = true) (hu : X.A.units + 64 < cLine) : CallR X (.builtin "max") (rMaxT X.K) := by
  intro pins s σ H vs us Q I r h
  obtain ⟨a, n, ns, rfl, hs, q⟩ := h
  obtain ⟨its, rv, ht, _⟩ := I.tuple hs
  rw [Vals.ref1 r]
  obtain ⟨as, hr⟩ := Dp.readsAll I ((n :: ns).map PyData.int) _ its (dp_ints _ _ (n :: ns)) rv
  have hd := depth_ints (n :: ns)
  refine PySem.W.max_tuple_data (x := .int n) (xs := ns.map PyData.int) (I.ok.hd hc) (show s.heap.IsTuple a its.toArray from ht) (by rw [List.toList_toArray]; exact hr) (alike_ints (n :: ns)) (by rw [List.map_cons] at hd; omega) fun i v h' tk bs hv rd k => ?_
  rw [PySem.W.maxD_ints] at rd
  cases rd with
  | int j t => exact ⟨.int _, H, I.kept k, ⟨_, rfl⟩, q⟩
theorem cr_minT (hc : X.calm = true) (hu : X.A.units + 64 < cLine) : CallR X (.builtin "min") (rMinT X.K) := by
  intro pins s σ H vs us Q I r h
  obtain ⟨a, n, ns, rfl, hs, q⟩ := h
  obtain ⟨its, rv, ht, _⟩ := I.tuple hs
  rw [Vals.ref1 r]
  obtain ⟨as, hr⟩ := Dp.readsAll I ((n :: ns).map PyData.int) _ its (dp_ints _ _ (n :: ns)) rv
  have hd := depth_ints (n :: ns)
  refine PySem.W.min_tuple_data (x := .int n) (xs := ns.map PyData.int) (I.ok.hd hc) (show s.heap.IsTuple a its.toArray from ht) (by rw [List.toList_toArray]; exact hr) (alike_ints (n :: ns)) (by rw [List.map_cons] at hd; omega) fun i v h' tk bs hv rd k => ?_
  rw [PySem.W.minD_ints] at rd
  cases rd with
  | int j t => exact ⟨.int _, H, I.kept k, ⟨_, rfl⟩, q⟩
theorem tup_ints {H0 H : Hp} {v : V} {ns : List Int} (ex : Ex H0 H) (d : Den C H0 v (it ns)) : ∃ c, v = .ref c ∧ SqT X.K H c (ns.map V.int) := by
  cases d with
  | tup h r =>
    have e := r.ints
    subst e
    exact ⟨_, rfl, .inl (.inl (ex _ _ h))⟩
theorem e_anyT {ns : List Int} (hc : X.calm = true) (hm : X.mg "any" = none) (ha : EB C X a ρ (it ns) ρ1) (hg : Gl X "any" := by rfl) (hs : starEach [a] X.env = [(false, eval a X.env)] := by rfl) : EB C X (.Call (.Name "any" p) [a] [] pos) ρ (.bl (ns.any fun n => n != 0)) ρ1 :=
  e_callB (cr_anyT hc) hm (by decide +kernel) (a_cons ha a_nil hs) (fun H0 H vs Q d ex q => by
    obtain ⟨v, rfl, dv⟩ := one_den d
    obtain ⟨c, rfl, h⟩ := tup_ints (X := X) ex dv
    exact ⟨c, ns, rfl, h, q _ H0 H (Stp.refl ex) (.bl _)⟩) hg (by decide) (by decide) hs rfl
theorem e_maxT {n : Int} {ns : List Int} (hc : X.calm = true) (hu : X.A.units + 64 < cLine) (hm : X.mg "max" = none) (ha : EB C X a ρ (it (n :: ns)) ρ1) (hg : Gl X "max" := by rfl) (hs : starEach [a] X.env = [(false, eval a X.env)] := by rfl) : EB C X (.Call (.Name "max" p) [a] [] pos) ρ (.int (ns.foldl max n)) ρ1 :=
  e_callB (cr_maxT hc hu) hm (by decide +kernel) (a_cons ha a_nil hs) (fun H0 H vs Q d ex q => by
    obtain ⟨v, rfl, dv⟩ := one_den d
    obtain ⟨c, rfl, h⟩ := tup_ints (X := X) ex dv
    exact ⟨c, n, ns, rfl, h, q _ H0 H (Stp.refl ex) (.int _)⟩) hg (by decide) (by decide) hs rfl
theorem e_minT {n : Int} {ns : List Int} (hc : X.calm = true) (hu : X.A.units + 64 < cLine) (hm : X.mg "min" = none) (ha : EB C X a ρ (it (n :: ns)) ρ1) (hg : Gl X "min" := by rfl) (hs : starEach [a] X.env = [(false, eval a X.env)] := by rfl) : EB C X (.Call (.Name "min" p) [a] [] pos) ρ (.int (ns.foldl min n)) ρ1 :=
  e_callB (cr_minT hc hu) hm (by decide +kernel) (a_cons ha a_nil hs) (fun H0 H vs Q d ex q => by
    obtain ⟨v, rfl, dv⟩ := one_den d
    obtain ⟨c, rfl, h⟩ := tup_ints (X := X) ex dv
    exact ⟨c, n, ns, rfl, h, q _ H0 H (Stp.refl ex) (.int _)⟩) hg (by decide) (by decide) hs rfl
end
end Q
end

/-! text LayH -/
section
set_option Elab.async false
set_option linter.all false
set_option maxRecDepth 100000
/-! isinstance, equality of data, chains, texts, lists given to a name -/
namespace Q
open PySem PySem.Spec PyProof.Rows L2
section
variable {X : Cx} {C : Ct} {e a b c : Expr} {es : List Expr} {ρ ρ1 ρ2 ρ3 : List Sl} {x y z : B} {xs ys bs : List B} {pos p p2 : Pos} {rest : List Stmt} {post : Out → Prop}

/-! ### classes as values, isinstance -/
theorem e_ty (n : String) {m : Str} (hm : X.mg m = none) (hv : bootBuiltins m = some (.type n)) (hg : Gl X m := by rfl) (hn : m ≠ "__name__" := by decide) (hd : (m == ("__debug__" : Str)) = false := by decide) : EB C X (.Name m p) ρ (.ty n) ρ :=
  pe_mono (pe_bltn (v := .ty n) hg hm hv rfl hn hd) fun σ H Q ⟨β, H0, V, k⟩ => k _ H0 H (Evl.Ex.refl _) V (.ty n)
theorem e_cl (i : Nat) {m : Str} (hm : X.mg m = some (.ref (C.cls i))) (hg : Gl X m := by rfl) (hd : (m == ("__debug__" : Str)) = false := by decide) : EB C X (.Name m p) ρ (.cl i) ρ :=
  pe_mono (pe_glob (v := .ref (C.cls i)) hg hm rfl hd) fun σ H Q ⟨β, H0, V, k⟩ => k _ H0 H (Evl.Ex.refl _) V (.cl i)
/-- the built-in type of a value -/
def tyB : B → Option String
  | .non => some "NoneType"
  | .bl _ => some "bool"
  | .int _ => some "int"
  | .str _ => some "str"
  | .tup _ => some "tuple"
  | .lst _ => some "list"
  | _ => none
theorem tyx_of {K : PySem.W.Frag} {H0 H : Hp} {v : V} {t : String} (ex : Ex H0 H) (d : Den C H0 v x) (h : tyB x = some t) : TyX K H v (.type t) := by
  cases d with
  | non => cases Option.some.inj h; exact .base .non
  | bl b => cases Option.some.inj h; exact .base (.bl b)
  | int i => cases Option.some.inj h; exact .base (.int i)
  | str s => cases Option.some.inj h; exact .base (.str s)
  | tup g r => cases Option.some.inj h; exact .base (.tup (ex _ _ g))
  | lst g r => cases Option.some.inj h; exact .base (.lst (ex _ _ g))
  | _ => cases h
/-- isinstance(x, T), x no instance of the text's own classes -/
theorem e_isi {t n : String} {k : Bool} (hm : X.mg "isinstance" = none) (ha : EB C X a ρ x ρ1) (hb : EB C X b ρ1 (.ty n) ρ2) (ht : tyB x = some t) (hk : kitB t n = some k) (hg : Gl X "isinstance" := by rfl) (hs : starEach [a, b] X.env = (false, eval a X.env) :: starEach [b] X.env := by rfl) (hs2 : starEach [b] X.env = [(false, eval b X.env)] := by rfl)
    (hpl : (backTo pos (starEach [b] X.env)).any (·.1) = false := by rfl) : EB C X (.Call (.Name "isinstance" p) [a, b] [] pos) ρ (.bl k) ρ2 :=
  e_callB call_isi hm (by decide +kernel) (a_cons ha (a_cons hb a_nil hs2) hs) (fun H0 H vs Q d ex q => by
    obtain ⟨v, w, rfl, dv, dw⟩ := two_den d
    cases dw
    exact ⟨v, .ty n, .type t, .type n, k, rfl, .ty n, tyx_of ex dv ht, kit_ty hk, q _ H0 H (Stp.refl ex) (.bl _)⟩) hg (by decide) (by decide) hs hpl
/-- isinstance(x, C), x no instance, C an own class -/
theorem e_isiC {t : String} {i : Nat} {k : Bool} (hm : X.mg "isinstance" = none) (ha : EB C X a ρ x ρ1) (hb : EB C X b ρ1 (.cl i) ρ2) (ht : tyB x = some t) (hk : PySem.W.kitOne X.K (.type t) (.ref (C.cls i)) = some k) (hg : Gl X "isinstance" := by rfl) (hs : starEach [a, b] X.env = (false, eval a X.env) :: starEach [b] X.env := by rfl)
    (hs2 : starEach [b] X.env = [(false, eval b X.env)] := by rfl) (hpl : (backTo pos (starEach [b] X.env)).any (·.1) = false := by rfl) : EB C X (.Call (.Name "isinstance" p) [a, b] [] pos) ρ (.bl k) ρ2 :=
  e_callB call_isi hm (by decide +kernel) (a_cons ha (a_cons hb a_nil hs2) hs) (fun H0 H vs Q d ex q => by
    obtain ⟨v, w, rfl, dv, dw⟩ := two_den d
    cases dw
    exact ⟨v, .ref (C.cls i), .type t, .ref (C.cls i), k, rfl, .own _, tyx_of ex dv ht, hk, q _ H0 H (Stp.refl ex) (.bl _)⟩) hg (by decide) (by decide) hs hpl
/-- isinstance(x, C), x an instance of an own class -/
theorem e_isiO {i j : Nat} {fs : List B} {k : Bool} (hm : X.mg "isinstance" = none) (ha : EB C X a ρ (.ob j fs) ρ1) (hb : EB C X b ρ1 (.cl i) ρ2) (hc : SlX.SCls X.K (C.cls j)) (hi : SlX.SIsi X.K (C.cls j)) (hk : PySem.W.kitOne X.K (.ref (C.cls j)) (.ref (C.cls i)) = some k) (hg : Gl X "isinstance" := by rfl)
    (hs : starEach [a, b] X.env = (false, eval a X.env) :: starEach [b] X.env := by rfl) (hs2 : starEach [b] X.env = [(false, eval b X.env)] := by rfl) (hpl : (backTo pos (starEach [b] X.env)).any (·.1) = false := by rfl) : EB C X (.Call (.Name "isinstance" p) [a, b] [] pos) ρ (.bl k) ρ2 :=
  e_callB (SlX.call_isiSl (.ref (C.cls i))) hm (by decide +kernel) (a_cons ha (a_cons hb a_nil hs2) hs) (fun H0 H vs Q d ex q => by
    obtain ⟨v, w, rfl, dv, dw⟩ := two_den d
    cases dw
    cases dv with
    | @ob o dx _ us _ h1 h2 r => exact ⟨o, C.cls j, dx, _, .ref (C.cls i), k, rfl, rfl, fun w h => h, .inr ⟨ex _ _ h1, ex _ _ h2⟩, hc, hi, hk, q _ H0 H (Stp.refl ex) (.bl _)⟩) hg (by decide) (by decide) hs hpl

/-! ### == and != of data -/
mutual
def py : B → PyData
  | .non => .none
  | .bl b => .bool b
  | .int i => .int i
  | .str s => .str s
  | .tup xs => .tuple (pys xs)
  | .lst xs => .list (pys xs)
  | .ob _ _ => .none
  | .rng _ _ => .none
  | .scr _ => .none
  | .dic _ _ => .none
  | .pob _ _ _ => .none
  | .ty _ => .none
  | .cl _ => .none
def pys : List B → List PyData
  | [] => []
  | x :: xs => py x :: pys xs
end
mutual
def isPy : B → Bool
  | .non => true
  | .bl _ => true
  | .int _ => true
  | .str _ => true
  | .tup xs => isPys xs
  | .lst xs => isPys xs
  | .ob _ _ => false
  | .rng _ _ => false
  | .scr _ => false
  | .dic _ _ => false
  | .pob _ _ _ => false
  | .ty _ => false
  | .cl _ => false
def isPys : List B → Bool
  | [] => true
  | x :: xs => isPy x && isPys xs
end
mutual
theorem dp_of {K : PySem.W.Frag} {H0 H : Hp} (ex : Ex H0 H) : ∀ {v : V} {x : B}, Den C H0 v x → isPy x = true → Dp K H v (py x)
  | _, _, .non, _ => by rw [py]; exact .non
  | _, _, .bl b, _ => by rw [py]; exact .bl b
  | _, _, .int i, _ => by rw [py]; exact .int i
  | _, _, .str s, _ => by rw [py]; exact .str s
  | _, _, .tup h r, q => by rw [py]; rw [isPy] at q; exact .tup (.inl (.inl (ex _ _ h))) (dps_of ex r q)
  | _, _, .lst h r, q => by rw [py]; rw [isPy] at q; exact .lst (.inl (.inl (ex _ _ h))) (dps_of ex r q)
  | _, _, .ob _ _ _, q => by rw [isPy] at q; cases q
  | _, _, .rng _, q => by rw [isPy] at q; cases q
  | _, _, .scr _, q => by rw [isPy] at q; cases q
  | _, _, .dic _ _ _, q => by rw [isPy] at q; cases q
  | _, _, .pob _ _ _ _, q => by rw [isPy] at q; cases q
  | _, _, .ty _, q => by rw [isPy] at q; cases q
  | _, _, .cl _, q => by rw [isPy] at q; cases q
theorem dps_of {K : PySem.W.Frag} {H0 H : Hp} (ex : Ex H0 H) : ∀ {vs : List V} {xs : List B}, DenAll C H0 vs xs → isPys xs = true → DpAll K H vs (pys xs)
  | _, _, .nil, _ => by rw [pys]; exact .nil
  | _, _, .cons h r, q => by
    rw [isPys, Bool.and_eq_true] at q
    rw [pys]
    exact .cons (dp_of ex h q.1) (dps_of ex r q.2)
end
/-- data that may be compared -/
structure Cmp (x : B) : Prop where
  ip : isPy x = true
  sh : SeqAt.shaped (py x) = true
theorem o_eqD (h1 : Cmp x) (h2 : Cmp y) : Op2 C (rEqD X.K) x y (.bl (PyData.eqv (py x) (py y))) := fun H0 H v u Q d1 d2 ex k =>
  ⟨_, _, dp_of ex d1 h1.ip, dp_of ex d2 h2.ip, h1.sh, h2.sh, k _ H0 H (Stp.refl ex) (.bl _)⟩
theorem o_neD (h1 : Cmp x) (h2 : Cmp y) : Op2 C (rNeD X.K) x y (.bl (!PyData.eqv (py x) (py y))) := fun H0 H v u Q d1 d2 ex k =>
  ⟨_, _, dp_of ex d1 h1.ip, dp_of ex d2 h2.ip, h1.sh, h2.sh, k _ H0 H (Stp.refl ex) (.bl _)⟩
theorem eqv_self (h : Cmp x) : PyData.eqv (py x) (py x) = true := by
  have q := SeqAt.canLay_of_shaped h.sh
  exact SeqAt.eqv_refl _ q
theorem c_eqD (hu : X.A.units + 64 < cLine) (ha : EB C X a ρ x ρ1) (hb : EB C X b ρ1 y ρ2) (h1 : Cmp x) (h2 : Cmp y) : CB C X (.Compare a [.Eq] [b] pos) ρ (PyData.eqv (py x) (py y)) ρ2 := c_cmp (op_eqD hu) ha hb (o_eqD h1 h2) (nomark _)
theorem c_neD (hu : X.A.units + 64 < cLine) (ha : EB C X a ρ x ρ1) (hb : EB C X b ρ1 y ρ2) (h1 : Cmp x) (h2 : Cmp y) : CB C X (.Compare a [.NotEq] [b] pos) ρ (!PyData.eqv (py x) (py y)) ρ2 := c_cmp (op_neD hu) ha hb (o_neD h1 h2) (nomark _)
theorem e_eqD (hu : X.A.units + 64 < cLine) (ha : EB C X a ρ x ρ1) (hb : EB C X b ρ1 y ρ2) (h1 : Cmp x) (h2 : Cmp y) : EB C X (.Compare a [.Eq] [b] pos) ρ (.bl (PyData.eqv (py x) (py y))) ρ2 := e_cmp (op_eqD hu) ha hb (o_eqD h1 h2) (nomark _)
theorem cmp_flat (h : (fl x).isSome = true) (hs : SeqAt.shaped (py x) = true) : Cmp x := by
  refine ⟨?_, hs⟩
  cases x <;> first | rfl | cases h | (rw [isPy])

/-! ### chains -/
theorem m_chain {r r' : R2} {g g' : Int → Int → Bool} {i j k : Int} (e1 : r = rI0 fun i j => .bl (g i j)) (e2 : r' = rI0 fun i j => .bl (g' i j)) {ta tb tc : TE} (ea : ta = tOf C ρ (.int i) ρ) (eb : tb = tOf C ρ (.int j) ρ) (ec : tc = tOf C ρ (.int k) ρ) :
    ∀ σ H Q, (∃ β H0, Sat C β σ H0 H ρ ∧ ∀ v H0' H', Ex H0 H0' → Sat C β σ H0' H' ρ → Den C H0' v (.bl (g i j && g' j k)) → Q v H') → tChain r r' ta tb tc σ H Q := fun σ H Q ⟨β, H0, V, q⟩ => by
  subst e1 e2 ea eb ec
  refine ⟨β, H0, V, fun v H1 H1' x1 V1 d1 => ⟨β, H1, V1, fun u H2 H2' x2 V2 d2 => ?_⟩⟩
  cases den_int (d1.mono x2)
  cases den_int d2
  refine ⟨i, j, rfl, rfl, g i j, rfl, ?_⟩
  cases hg : g i j with
  | true =>
    refine iteT ⟨β, H2, V2, fun w H3 H3' x3 V3 d3 => ?_⟩
    cases den_int d3
    refine ⟨j, k, rfl, rfl, ?_⟩
    have z := q (.bl (g' j k)) H3 H3' ((x1.trans x2).trans x3) V3
    rw [hg] at z
    exact z (.bl _)
  | false =>
    refine iteF ?_
    have z := q (.bl false) H2 H2' (x1.trans x2) V2
    rw [hg] at z
    exact z (.bl _)
theorem e_chain {op op' : CmpOp} {g g' : Int → Int → Bool} {i j k : Int} (ho : OpR X (compareOp op) (rI0 fun i j => .bl (g i j))) (ho' : OpR X (compareOp op') (rI0 fun i j => .bl (g' i j))) (ha : EB C X a ρ (.int i) ρ) (hb : EB C X b ρ (.int j) ρ) (hc : EB C X c ρ (.int k) ρ)
    (hm : lastMarks [op, op'] [b, c] = false := by with_unfolding_all rfl) : EB C X (.Compare a [op, op'] [b, c] pos) ρ (.bl (g i j && g' j k)) ρ := pe_mono (pe_chain ho ho' ha hb hc hm) (m_chain rfl rfl rfl rfl rfl)
theorem c_chain {op op' : CmpOp} {g g' : Int → Int → Bool} {i j k : Int} (ho : OpR X (compareOp op) (rI0 fun i j => .bl (g i j))) (ho' : OpR X (compareOp op') (rI0 fun i j => .bl (g' i j))) (ha : EB C X a ρ (.int i) ρ) (hb : EB C X b ρ (.int j) ρ) (hc : EB C X c ρ (.int k) ρ)
    (hm : lastMarks [op, op'] [b, c] = false := by with_unfolding_all rfl) : CB C X (.Compare a [op, op'] [b, c] pos) ρ (g i j && g' j k) ρ := pt_mono (pt_chain ho ho' ha hb hc hm) fun σ H Q ⟨β, H0, V, q⟩ =>
  m_chain rfl rfl rfl rfl rfl σ H _ ⟨β, H0, V, fun v H1 H1' e1 V1 d => by
    cases d
    exact ⟨_, rfl, q H1 H1' e1 V1⟩⟩

/-! ### a comprehension given to a name on one line -/
theorem q_lcO {ι : Type} (i : Nat) {n : Str} {py : Pos} {elt tg iter : Expr} {ifs : List Expr} {scope : Scope} {own : List (Str × Nat)} {ρb : List Sl} (zs : List ι) (inj : ι → B) (ρt : ι → List Sl) (p : ι → Bool) (f : ι → B) (hc : X.calm = true) (hN : X.N.Nodup)
    (hi : VB C X tg iter ρ (zs.map inj) ρ1) (ok : BlkOk X.N X.env.scope scope own) (hb : Blk ρ1 (own.map (·.2)) ρb)
    (hg : ∀ (s : Shared) (H : Hp) (Ca : Addr) (cl : List (Str × Addr)) (fp : List Addr) (z : ι), z ∈ zs → GB C (X.blk s H scope (compEnvC scope cl Ca X.env) fp) tg ρb (inj z) (ρt z) (own.map (·.2)))
    (ht : ∀ (s : Shared) (H : Hp) (Ca : Addr) (cl : List (Str × Addr)) (fp : List Addr) (z : ι), z ∈ zs → PTs (X.blk s H scope (compEnvC scope cl Ca X.env) fp) ifs (cOf C (ρt z) (p z) (ρt z)))
    (he : ∀ (s : Shared) (H : Hp) (Ca : Addr) (cl : List (Str × Addr)) (fp : List Addr) (z : ι), z ∈ zs → p z = true → EB C (X.blk s H scope (compEnvC scope cl Ca X.env) fp) elt (ρt z) (f z) (ρt z))
    (hl : zs.length ≤ sizeLine) (k : SB C X rest (ρ1.set i (.ow (.lst ((zs.filter p).map f)))) post) (hy : X.N[i]? = some n := by rfl) (hyl : X.env.scope.names.lookup n = some .local := by rfl)
    (hsw : swapsWith (.ListComp elt [⟨tg, iter, ifs, 0⟩] scope p2) (some (.Name n py)) pos.line X.env = pure true := by exact sw_true rfl rfl rfl (by decide +kernel)) (hs : ∀ x, foldedSetIterable iter X.env x = pure x := by intro _; rfl) (h0 : i ≠ 0 := by decide) :
    SB C X (.Assign [.Name n py] (.ListComp elt [⟨tg, iter, ifs, 0⟩] scope p2) pos :: rest) ρ post := by
  refine q_cons (ps_mono (ps_setLc (g := fun v σ H Q => ∃ z, z ∈ zs ∧ gOf C ρb (inj z) (ρt z) (own.map (·.2)) v σ H Q) (tt := fun σ H Q => ∃ z, z ∈ zs ∧ cOf C (ρt z) (p z) (ρt z) σ H Q) (te := fun σ H Q => ∃ z, z ∈ zs ∧ p z = true ∧ tOf C (ρt z) (f z) (ρt z) σ H Q) hc hN hy hyl hsw hi ok
    (fun s H Ca cl fp => ⟨fun pins s' σ H v u Q I r ⟨z, hz, q⟩ => (hg s _ Ca cl fp z hz).run pins s' σ H v u Q I r q⟩) (fun s H Ca cl fp => ⟨fun pins s' σ H Q I ⟨z, hz, q⟩ => (ht s _ Ca cl fp z hz).run pins s' σ H Q I q⟩)
    (fun s H Ca cl fp => ⟨fun pins s' σ H Q I ⟨z, hz, hp, q⟩ => (he s _ Ca cl fp z hz hp).run pins s' σ H Q I q⟩) hs) ?_)
  intro D σ H ⟨β, H0, V, K⟩
  exact lc_read hb hl σ H _ ⟨β, H0, V, fun p H1 H1' e1 V1 f1 f2 f3 f4 => K.1 _ k _ H1 H1' e1 (V1.own f1 f2 (.inl ⟨f3, h0⟩) f4)⟩
/-- .. all of them, shared -/
theorem q_lcA {ι : Type} (i : Nat) {n : Str} {py : Pos} {elt tg iter : Expr} {scope : Scope} {own : List (Str × Nat)} {ρb : List Sl} (zs : List ι) (inj : ι → B) (ρt : ι → List Sl) (f : ι → B) (hc : X.calm = true) (hN : X.N.Nodup)
    (hi : VB C X tg iter ρ (zs.map inj) ρ1) (ok : BlkOk X.N X.env.scope scope own) (hb : Blk ρ1 (own.map (·.2)) ρb)
    (hg : ∀ (s : Shared) (H : Hp) (Ca : Addr) (cl : List (Str × Addr)) (fp : List Addr) (z : ι), z ∈ zs → GB C (X.blk s H scope (compEnvC scope cl Ca X.env) fp) tg ρb (inj z) (ρt z) (own.map (·.2)))
    (he : ∀ (s : Shared) (H : Hp) (Ca : Addr) (cl : List (Str × Addr)) (fp : List Addr) (z : ι), z ∈ zs → EB C (X.blk s H scope (compEnvC scope cl Ca X.env) fp) elt (ρt z) (f z) (ρt z))
    (hl : zs.length ≤ sizeLine) (k : SB C X rest (ρ1.set i (.ow (.lst (zs.map f)))) post) (hy : X.N[i]? = some n := by rfl) (hyl : X.env.scope.names.lookup n = some .local := by rfl)
    (hsw : swapsWith (.ListComp elt [⟨tg, iter, [], 0⟩] scope p2) (some (.Name n py)) pos.line X.env = pure true := by exact sw_true rfl rfl rfl (by decide +kernel)) (hs : ∀ x, foldedSetIterable iter X.env x = pure x := by intro _; rfl) (h0 : i ≠ 0 := by decide) :
    SB C X (.Assign [.Name n py] (.ListComp elt [⟨tg, iter, [], 0⟩] scope p2) pos :: rest) ρ post := by
  refine q_lcO i zs inj ρt (fun _ => true) f hc hN hi ok hb hg (fun _ _ _ _ _ _ _ => t_nil) (fun s H Ca cl fp z hz _ => he s H Ca cl fp z hz) hl ?_ hy hyl hsw hs h0
  rw [List.filter_eq_self.mpr (fun _ _ => rfl)]
  exact k
theorem f_lcA {ι : Type} {elt tg iter : Expr} {scope : Scope} {own : List (Str × Nat)} {ρb : List Sl} (zs : List ι) (inj : ι → B) (ρt : ι → List Sl) (f : ι → B) (hc : X.calm = true) (hN : X.N.Nodup)
    (hi : VB C X tg iter ρ (zs.map inj) ρ1) (ok : BlkOk X.N X.env.scope scope own) (hb : Blk ρ1 (own.map (·.2)) ρb)
    (hg : ∀ (s : Shared) (H : Hp) (Ca : Addr) (cl : List (Str × Addr)) (fp : List Addr) (z : ι), z ∈ zs → GB C (X.blk s H scope (compEnvC scope cl Ca X.env) fp) tg ρb (inj z) (ρt z) (own.map (·.2)))
    (he : ∀ (s : Shared) (H : Hp) (Ca : Addr) (cl : List (Str × Addr)) (fp : List Addr) (z : ι), z ∈ zs → EB C (X.blk s H scope (compEnvC scope cl Ca X.env) fp) elt (ρt z) (f z) (ρt z))
    (hl : zs.length ≤ sizeLine) (hs : ∀ x, foldedSetIterable iter X.env x = pure x := by intro _; rfl) :
    FB C X (.ListComp elt [⟨tg, iter, [], 0⟩] scope pos) ρ (.lst (zs.map f)) ρ1 := by
  have h := f_lc (pos := pos) zs inj ρt (fun _ => true) f hc hN hi ok hb hg (fun _ _ _ _ _ _ _ => t_nil) (fun s H Ca cl fp z hz _ => he s H Ca cl fp z hz) hl hs
  rw [List.filter_eq_self.mpr (fun _ _ => rfl)] at h
  exact h
theorem v_zipI {ns ms : List Int} {elts : List Expr} {kk : Nat} {tpos : Pos} {k l : Bool} (hm : X.mg "zip" = none) (ha : EB C X a ρ (sq k ns) ρ1) (hb : EB C X b ρ1 (sq l ms) ρ2) (hg : Gl X "zip" := by rfl)
    (hs : starEach [a, b] X.env = (false, eval a X.env) :: starEach [b] X.env := by rfl) (hs2 : starEach [b] X.env = [(false, eval b X.env)] := by rfl) (hpl : (backTo pos (starEach [b] X.env)).any (·.1) = false := by rfl) :
    VB C X (.Tuple elts kk tpos) (.Call (.Name "zip" p) [a, b] [] pos) ρ ((ns.zip ms).map fun p => .tup [.int p.1, .int p.2]) ρ2 := by
  have h := v_zip (elts := elts) (kk := kk) (tpos := tpos) (p := p) (pos := pos) hm ha hb hg hs hs2 hpl
  rw [List.zip_map, List.map_map] at h
  exact h
end
end Q
end

/-! text LayI -/
section
set_option Elab.async false
set_option linter.all false
set_option maxRecDepth 100000
/-! instances under construction: __init__ -/
namespace Q
open PySem PySem.Spec PyProof.Rows L2

theorem ODen.get {C : Ct} {H : Hp} : ∀ {us : List (Option V)} {vs : List (Option B)} {j : Nat} {x : B}, ODen C H us vs → vs[j]? = some (some x) → ∃ v, us[j]? = some (some v) ∧ Den C H v x
  | _, _, _, _, .nil, e => by simp at e
  | _, _, 0, _, .un _, e => by cases Option.some.inj e
  | _, _, 0, _, .so d _, e => by
    cases Option.some.inj (Option.some.inj e)
    exact ⟨_, rfl, d⟩
  | _, _, j + 1, x, .un r, e => ODen.get (j := j) (x := x) r e
  | _, _, j + 1, x, .so _ r, e => ODen.get (j := j) (x := x) r e
theorem ODen.len {C : Ct} {H : Hp} : ∀ {us : List (Option V)} {vs : List (Option B)}, ODen C H us vs → us.length = vs.length
  | _, _, .nil => rfl
  | _, _, .un r => congrArg Nat.succ r.len
  | _, _, .so _ r => congrArg Nat.succ r.len
theorem ODen.append {C : Ct} {H : Hp} : ∀ {us us' : List (Option V)} {vs vs' : List (Option B)}, ODen C H us vs → ODen C H us' vs' → ODen C H (us ++ us') (vs ++ vs')
  | _, _, _, _, .nil, s => s
  | _, _, _, _, .un r, s => .un (r.append s)
  | _, _, _, _, .so d r, s => .so d (r.append s)
theorem ODen.rep {C : Ct} {H : Hp} : ∀ (n : Nat), ODen C H (List.replicate n none) (List.replicate n none)
  | 0 => .nil
  | n + 1 => .un (ODen.rep n)
theorem ODen.set {C : Ct} {H : Hp} : ∀ {us : List (Option V)} {vs : List (Option B)} (j : Nat) {v : V} {x : B}, ODen C H us vs → Den C H v x → ODen C H (us.set j (some v)) (vs.set j (some x))
  | _, _, _, _, _, .nil, _ => .nil
  | _, _, 0, _, _, .un r, d => .so d r
  | _, _, 0, _, _, .so _ r, d => .so d r
  | _, _, j + 1, _, _, .un r, d => .un (r.set j d)
  | _, _, j + 1, _, _, .so e r, d => .so e (r.set j d)
def putB (j : Nat) (x : B) (vs : List (Option B)) : List (Option B) := (vs ++ List.replicate (j + 1 - vs.length) Option.none).set j (some x)
theorem ODen.put {C : Ct} {H : Hp} {us : List (Option V)} {vs : List (Option B)} {v : V} {x : B} (r : ODen C H us vs) (j : Nat) (d : Den C H v x) : ODen C H (SlX.putS j v us) (putB j x vs) := by
  unfold SlX.putS putB
  rw [r.len]
  exact (r.append (ODen.rep _)).set j d
theorem ODen.full {C : Ct} {H : Hp} : ∀ {us : List (Option V)} {fs : List B}, ODen C H us (fs.map some) → ∃ xs, us = xs.map some ∧ DenAll C H xs fs
  | _, [], h => by
    cases h
    exact ⟨[], rfl, .nil⟩
  | _, f :: fs, h => by
    cases h with
    | so d r =>
      obtain ⟨xs, e, q⟩ := ODen.full r
      exact ⟨_ :: xs, by rw [e]; rfl, .cons d q⟩

section
variable {C : Ct} {β : Bs} {σ : L2.St} {H0 H : Hp} {ρ : List Sl}
/-- a slot of the instance that is being made is stored -/
theorem Sat.writeI {i : Nat} {p dx : Addr} {c : Nat} {vs vs' : List (Option B)} {us us' : List (Option V)} (V : Sat C β σ H0 H ρ) (h : ρ[i]? = some (.ow (.ins c dx vs))) (hp : σ[i]? = some (some (.ref p))) (hs : SlX.Slt H p (C.cls c) dx us) (d : ODen C H0 us' vs')
    (hno : ∀ (j : Nat) (o : OB), ρ[j]? = some (.ow o) → j = i ∨ o.pl = true) : Sat C β σ H0 (SlX.slH H p (C.cls c) dx us') (ρ.set i (.ow (.ins c dx vs'))) := by
  obtain ⟨q, h1, h2, ⟨us0, n, hd, hh, _⟩, h4⟩ := V.ow i _ h
  rw [hp] at h1
  cases h1
  obtain ⟨hi0, hbp, hbd, hEd, hT⟩ := h4
  have hl : i < ρ.length := (List.getElem?_eq_some_iff.mp h).1
  have hdx : ∀ o, H dx = some o → ¬ Plain o := fun o ho z => by
    rcases hh with ⟨_, _, h3⟩ | ⟨_, h3⟩ <;> (rw [h3] at ho; cases ho; exact z)
  refine ⟨V.exb, fun a u e => ?_, fun a e1 e2 e3 => ?_, fun a e => ?_, V.bE, by rw [List.length_set]; exact V.len, fun j c e => ?_, fun j c e => ?_, fun j k bj bk q e1 e2 e3 e4 => ?_, ⟨fun q hq => absurd hq (by rw [hT]; simp), fun q hq => absurd hq (by rw [hT]; simp)⟩, fun j T h => V.tk j T (set_tk h (fun _ z => nomatch z))⟩
  · rw [SlX.slH_ne (fun z => by rw [z, h2] at e; cases e) (fun z => by rw [z, hd] at e; cases e)]
    exact V.ex a u e
  · rw [SlX.slH_ne (fun z => e3 (by rw [z]; exact hbp)) (fun z => e3 (by rw [z]; exact hbd))]
    exact V.out a e1 e2 e3
  · obtain ⟨q1, q2⟩ := V.bo a e
    refine ⟨?_, q2⟩
    unfold SlX.slH
    by_cases ha : a = p
    · rw [ha, upd_same]
      exact fun z => nomatch z
    · rw [upd_ne ha]
      by_cases hb : a = dx
      · rw [hb, upd_same]
        exact fun z => nomatch z
      · rw [upd_ne hb]
        exact q1
  · by_cases hj : i = j
    · subst hj
      rw [List.getElem?_set_self hl] at e
      cases e
    · rw [List.getElem?_set_ne hj] at e
      exact V.va j c e
  · by_cases hj : i = j
    · subst hj
      rw [List.getElem?_set_self hl] at e
      cases e
      exact ⟨p, hp, h2, ⟨us', n, hd, .inr ⟨upd_same, by unfold SlX.slH; rw [upd_ne n, upd_same]⟩, d⟩, hi0, hbp, hbd, hEd, hT⟩
    · rw [List.getElem?_set_ne hj] at e
      obtain ⟨r, r1, r2, r3, r4⟩ := V.ow j c e
      have ne : r ≠ p := fun z => hj (V.sep i j _ c p h e hp (by rw [← z]; exact r1))
      have pl := (hno j c e).resolve_left (fun z => hj z.symm)
      refine ⟨r, r1, r2, ?_, r4⟩
      have nd : ∀ o, H r = some o → Plain o → r ≠ dx := fun o h1 h2 z => hdx o (by rw [← z]; exact h1) h2
      cases c with
      | lst bs =>
        obtain ⟨ws, w1, w2⟩ := r3
        exact ⟨ws, by rw [SlX.slH_ne ne (nd _ w1 trivial)]; exact w1, w2⟩
      | dic bs =>
        obtain ⟨ws, w1, w2⟩ := r3
        exact ⟨ws, by rw [SlX.slH_ne ne (nd _ w1 trivial)]; exact w1, w2⟩
      | lk d o kvs kbs =>
        obtain ⟨g, w1, w2⟩ := r3
        exact ⟨g, by rw [SlX.slH_ne ne (nd _ w1 trivial)]; exact w1, w2⟩
      | ins _ _ _ => cases pl
  · have g : ∀ (j : Nat) (c' : OB), (ρ.set i (.ow (.ins c dx vs')))[j]? = some (.ow c') → ∃ c'', ρ[j]? = some (.ow c'') := fun j c' e => by
      by_cases hj : i = j
      · exact ⟨_, by rw [← hj]; exact h⟩
      · rw [List.getElem?_set_ne hj] at e
        exact ⟨c', e⟩
    obtain ⟨c1, g1⟩ := g j bj e1
    obtain ⟨c2, g2⟩ := g k bk e2
    exact V.sep j k c1 c2 q g1 g2 e3 e4
/-- only slot 0 may be an instance -/
theorem Sat.insAt {j : Nat} {o : OB} (V : Sat C β σ H0 H ρ) (h : ρ[j]? = some (.ow o)) : j = 0 ∨ o.pl = true := by
  obtain ⟨p, _, _, _, m⟩ := V.ow j o h
  cases o with
  | lst _ => exact .inr rfl
  | dic _ => exact .inr rfl
  | lk _ _ _ _ => exact .inr rfl
  | ins _ _ _ => exact .inl m.1
end
section
variable {X : Cx} {C : Ct} {e a b : Expr} {ρ ρ1 ρ2 ρ3 : List Sl} {x y z : B} {pos : Pos} {rest : List Stmt} {post : Out → Prop}
/-- self.f, self being made -/
theorem e_atI {f n : Str} {p : Pos} {c j : Nat} {dx : Addr} {vs : List (Option B)} (T : Sf X.K C c f j) (h : ρ[0]? = some (.ow (.ins c dx vs)) := by rfl) (hx : vs[j]? = some (some x) := by rfl) (hN : X.N[0]? = some n := by rfl)
    (hv : Vis X.env.scope n := by first | exact Or.inl rfl | exact Or.inr (Or.inl rfl) | exact Or.inr (Or.inr rfl)) (hd : (n == ("__debug__" : Str)) = false := by decide) (hcd : (n == ("__classdict__" : Str)) = false := by decide)
    (hb : attributeBase (.Name n p) f X.env (eval (.Name n p) X.env) = eval (.Name n p) X.env := by rfl) : EB C X (.Attribute (.Name n p) f pos) ρ x ρ :=
  pe_mono (SlX.pe_sl (pe_var hN hv hd hcd) hb) fun σ H Q ⟨β, H0, V, k⟩ => by
    obtain ⟨q, h1, h2, ⟨us, n, hd, hh, d⟩, h4⟩ := V.ow 0 _ h
    obtain ⟨r, hr⟩ := T.at_
    obtain ⟨w, w1, w2⟩ := d.get hx
    refine ⟨_, h1, q, _, dx, r, us, j, w, rfl, ?_, T.cl, hr, w1, k w H0 H (Evl.Ex.refl _) V w2⟩
    rcases hh with ⟨g1, g2, _⟩ | g
    · exact .inl ⟨g1, g2⟩
    · exact .inr g
/-- self.f = e -/
theorem q_at {f n : Str} {p tp : Pos} {c j : Nat} {dx : Addr} {vs : List (Option B)} (T : Sf X.K C c f j) (he : EB C X e ρ x ρ1) (k : SB C X rest (ρ1.set 0 (.ow (.ins c dx (putB j x vs)))) post) (h : ρ1[0]? = some (.ow (.ins c dx vs)) := by rfl) (hN : X.N[0]? = some n := by rfl)
    (hv : Vis X.env.scope n := by first | exact Or.inl rfl | exact Or.inr (Or.inl rfl) | exact Or.inr (Or.inr rfl)) (hd : (n == ("__debug__" : Str)) = false := by decide) (hcd : (n == ("__classdict__" : Str)) = false := by decide)
    (hs : swapsWith e (some (.Attribute (.Name n p) f tp)) pos.line X.env = pure false := by rfl) : SB C X (.Assign [.Attribute (.Name n p) f tp] e pos :: rest) ρ post :=
  q_cons (ps_mono (SlX.ps_sl (pe_var hN hv hd hcd) he hs) fun D σ H ⟨β, H0, V, K⟩ => ⟨β, H0, V, fun v H1 H1' e1 V1 d1 => by
    obtain ⟨q, h1, h2, ⟨us, n, hd, hh, d⟩, h4⟩ := V1.ow 0 _ h
    obtain ⟨r, hr⟩ := T.at_
    have hsl : SlX.Slt H1' q (C.cls c) dx us := by
      rcases hh with ⟨g1, g2, _⟩ | g
      · exact .inl ⟨g1, g2⟩
      · exact .inr g
    exact ⟨_, h1, q, _, dx, r, us, j, rfl, hsl, T.cl, hr, K.1 _ k σ H1 _ e1 (V1.writeI h h1 hsl (d.put j d1) fun l o hl => V1.insAt hl)⟩⟩)
/-- e.f op= value over slots -/
def sSlA (K : PySem.W.Frag) (ta tv : TE) (rd : V → V → Hp → VK → Prop) (f : Str) : TS := fun D σ H => ta σ H fun x H1 => ∃ a C dx p vs i v, x = .ref a ∧ SlX.Slt H1 a C dx vs ∧ SlX.SCls K C ∧ SlX.Slot1 K C f p i ∧ vs[i]? = some (some v) ∧
  tv σ H1 fun y H2 => rd v y H2 fun z H3 => ∃ vs', SlX.Slt H3 a C dx vs' ∧ D.nx σ (SlX.slH H3 a C dx (SlX.putS i z vs'))
theorem ps_slA {o v : Expr} {f : Str} {tp : Pos} {ta tv : TE} {op : Operator} {rd : V → V → Hp → VK → Prop} (ha : PE X o ta) (hv : PE X v tv) (hop : PIp X op rd) : PS X (.AugAssign (.Attribute o f tp) op v pos) (sSlA X.K ta tv rd f) := by
  refine ⟨fun pins s σ H D I h => wpAny_AugAssign_AttributeAny (thn (ha.run pins s σ H _ I h) ?_)⟩
  rintro ov s1 ⟨x, H1, I1, rx, a, C, dx, p, vs, i, w, ex, hsl, hc, ht, l, q⟩
  subst ex
  obtain rfl : ov = Value.ref a := rx
  refine SlX.getslot_ok I1 hsl hc ht l fun u s2 I2 ru => thn (hv.run pins s2 σ H1 _ I2 q) ?_
  rintro w3 s3 ⟨y, H2, I3, ry, q3⟩
  refine thn (hop pins s3 σ H2 w y u w3 _ I3 ru ry q3) ?_
  rintro w4 s4 ⟨z, H3, I4, rz, vs', hsl', q4⟩
  exact SlX.setslot_ok I4 hsl' hc ht rz fun s5 I5 => ⟨σ, _, I5, q4⟩
/-- self.f op= e -/
theorem q_atA {f n : Str} {p tp : Pos} {c j : Nat} {dx : Addr} {vs : List (Option B)} {op : Operator} {r : R2} (T : Sf X.K C c f j) (hop : PIp X op r) (he : EB C X e ρ y ρ) (ho : Op2 C r x y z) (hx : vs[j]? = some (some x)) (k : SB C X rest (ρ.set 0 (.ow (.ins c dx (putB j z vs)))) post)
    (h : ρ[0]? = some (.ow (.ins c dx vs)) := by rfl) (hN : X.N[0]? = some n := by rfl)
    (hv : Vis X.env.scope n := by first | exact Or.inl rfl | exact Or.inr (Or.inl rfl) | exact Or.inr (Or.inr rfl)) (hd : (n == ("__debug__" : Str)) = false := by decide) (hcd : (n == ("__classdict__" : Str)) = false := by decide) : SB C X (.AugAssign (.Attribute (.Name n p) f tp) op e pos :: rest) ρ post :=
  q_cons (ps_mono (ps_slA (pe_var hN hv hd hcd) he hop) fun D σ H ⟨β, H0, V, K⟩ => by
    obtain ⟨q, h1, h2, ⟨us, n, hd, hh, d⟩, h4⟩ := V.ow 0 _ h
    obtain ⟨rr, hr⟩ := T.at_
    obtain ⟨w, w1, w2⟩ := d.get hx
    have hsl : SlX.Slt H q (C.cls c) dx us := by
      rcases hh with ⟨g1, g2, _⟩ | g
      · exact .inl ⟨g1, g2⟩
      · exact .inr g
    refine ⟨_, h1, q, _, dx, rr, us, j, w, rfl, hsl, T.cl, hr, w1, β, H0, V, fun v H1 H1' e1 V1 d1 => ?_⟩
    refine ho H1 H1' w v _ (w2.mono e1) d1 V1.ex fun z' H2 H2' s d2 => ?_
    have V2 := V1.stp s
    obtain ⟨q', h1', h2', ⟨us', n', hd', hh', d'⟩, h4'⟩ := V2.ow 0 _ h
    rw [h1] at h1'
    cases h1'
    have hsl' : SlX.Slt H2' q (C.cls c) dx us' := by
      rcases hh' with ⟨g1, g2, _⟩ | g
      · exact .inl ⟨g1, g2⟩
      · exact .inr g
    exact ⟨us', hsl', K.1 _ k σ H2 _ (e1.trans s.e0) (V2.writeI h h1 hsl' (d'.put j d2) fun l o hl => V2.insAt hl)⟩)
end

/-! ### the rule of an __init__ -/
section
variable {P : Program} {w : World} {K : PySem.W.Frag} {mg : Str → Option Value} {base : Heap} {C : Ct}
/-- the end of an __init__'s body -/
def endI (c : Nat) (dx : Addr) (fs : List B) : Out → Prop
  | .nx ρ => ∃ r, ρ = .ow (.ins c dx (fs.map some)) :: r
  | _ => False
theorem sat_init {N : List Str} {vs : List V} {bs : List B} {H0 Hc : Hp} {x dx : Addr} {c : Nat} (e : Ex H0 Hc) (d : DenAll C H0 vs bs) (hx : Hc x = none) (hdx : Hc dx = none) (ne : dx ≠ x) :
    Sat C ⟨H0, upd (upd Hc dx (.own x)) x (.ins (C.cls c) dx []), fun a => a = x ∨ a = dx, []⟩ (L2.start N (.ref x :: vs)) H0 (upd (upd Hc dx (.own x)) x (.ins (C.cls c) dx [])) (.ow (.ins c dx []) :: (bs.map Sl.va ++ List.replicate (N.length - (bs.length + 1)) .un)) where
  tb := ⟨fun q hq => absurd hq (by simp), fun q hq => absurd hq (by simp)⟩
  tk := fun i T h => by
    cases i with
    | zero => cases Option.some.inj h
    | succ i =>
      have h' : (bs.map Sl.va ++ List.replicate (N.length - (bs.length + 1)) Sl.un)[i]? = some (.tk T) := h
      by_cases hi : i < bs.length
      · rw [List.getElem?_append_left (by simpa using hi), List.getElem?_map] at h'
        cases e : bs[i]? with
        | none => rw [e] at h'; cases h'
        | some c => rw [e] at h'; cases h'
      · rw [List.getElem?_append_right (by simpa using hi), List.getElem?_replicate] at h'
        split at h' <;> cases h'
  exb := Evl.Ex.refl _
  ex := fun a o h => by
    rw [upd_ne (fun z => by rw [z, none_of_ex e hx] at h; cases h), upd_ne (fun z => by rw [z, none_of_ex e hdx] at h; cases h)]
    exact e a o h
  out := fun a _ h _ => ⟨h, rfl⟩
  bo := fun a h => by
    rcases h with rfl | rfl
    · refine ⟨?_, none_of_ex e hx⟩
      rw [upd_same]
      exact fun z => nomatch z
    · refine ⟨?_, none_of_ex e hdx⟩
      rw [upd_ne ne, upd_same]
      exact fun z => nomatch z
  bE := fun a h => by
    rcases h with rfl | rfl
    · show upd _ _ _ _ ≠ none
      rw [upd_same]; exact fun z => nomatch z
    · show upd _ _ _ _ ≠ none
      rw [upd_ne ne, upd_same]; exact fun z => nomatch z
  len := by unfold L2.start; simp [d.len]
  va := fun i b h => by
    cases i with
    | zero => cases Option.some.inj h
    | succ i =>
      have h' : (bs.map Sl.va ++ List.replicate (N.length - (bs.length + 1)) Sl.un)[i]? = some (.va b) := h
      unfold L2.start
      by_cases hi : i < bs.length
      · rw [List.getElem?_append_left (by simpa using hi), List.getElem?_map] at h'
        cases e : bs[i]? with
        | none => rw [e] at h'; cases h'
        | some c =>
          rw [e] at h'
          cases Option.some.inj h'
          obtain ⟨v, h1, h2⟩ := d.get e
          refine ⟨v, ?_, h2⟩
          rw [List.getElem?_append_left (by rw [List.length_map, List.length_cons, d.len]; omega), List.getElem?_map, List.getElem?_cons_succ, h1]
          rfl
      · rw [List.getElem?_append_right (by simpa using hi), List.getElem?_replicate] at h'
        split at h' <;> cases h'
  ow := fun i b h => by
    cases i with
    | zero =>
      cases Option.some.inj h
      exact ⟨x, rfl, none_of_ex e hx, ⟨[], ne, none_of_ex e hdx, .inl ⟨upd_same, rfl, by rw [upd_ne ne, upd_same]⟩, .nil⟩, rfl, .inl rfl, .inr rfl, by show upd _ _ _ _ = _; rw [upd_ne ne, upd_same], rfl⟩
    | succ i =>
      have h' : (bs.map Sl.va ++ List.replicate (N.length - (bs.length + 1)) Sl.un)[i]? = some (.ow b) := h
      by_cases hi : i < bs.length
      · rw [List.getElem?_append_left (by simpa using hi), List.getElem?_map] at h'
        cases e : bs[i]? with
        | none => rw [e] at h'; cases h'
        | some c => rw [e] at h'; cases h'
      · rw [List.getElem?_append_right (by simpa using hi), List.getElem?_replicate] at h'
        split at h' <;> cases h'
  sep := fun i j bi bj p h1 h2 _ _ => by
    have g : ∀ (i : Nat) (b : OB), (Sl.ow (.ins c dx []) :: (bs.map Sl.va ++ List.replicate (N.length - (bs.length + 1)) Sl.un))[i]? = some (.ow b) → i = 0 := fun i b h => by
      cases i with
      | zero => rfl
      | succ i =>
        have h' : (bs.map Sl.va ++ List.replicate (N.length - (bs.length + 1)) Sl.un)[i]? = some (.ow b) := h
        by_cases hi : i < bs.length
        · rw [List.getElem?_append_left (by simpa using hi), List.getElem?_map] at h'
          cases e : bs[i]? with
          | none => rw [e] at h'; cases h'
          | some c => rw [e] at h'; cases h'
        · rw [List.getElem?_append_right (by simpa using hi), List.getElem?_replicate] at h'
          split at h' <;> cases h'
    rw [g i bi h1, g j bj h2]
/-- what is behind an __init__ -/
theorem sat_made {β : Bs} {σ : L2.St} {H0 Hc H0' H' : Hp} {ρ : List Sl} {c : Nat} {x dx : Addr} {fs : List B} (hx : Hc x = none) (hdx : Hc dx = none) (ne : dx ≠ x)
    (V : Sat C ⟨H0, upd (upd Hc dx (.own x)) x (.ins (C.cls c) dx []), fun a => a = x ∨ a = dx, []⟩ σ H0' H' (.ow (.ins c dx (fs.map some)) :: ρ)) (hf : fs ≠ []) :
    ∃ H0'', Stp H0 Hc H0'' H' ∧ Den C H0'' (.ref x) (.ob c fs) := by
  obtain ⟨q, h1, h2, ⟨us, n, hd, hh, d⟩, _, h5, h6, h7, _⟩ := V.ow 0 _ rfl
  have eq : q = x := by
    have z : upd (upd Hc dx (.own x)) x (.ins (C.cls c) dx []) dx = some (.own q) := h7
    rw [upd_ne ne, upd_same] at z
    cases z
    rfl
  subst eq
  obtain ⟨xs, ex, dxs⟩ := d.full
  have hh2 : H' q = some (SlX.SlO q (C.cls c) dx us) ∧ H' dx = some (.xd []) := by
    rcases hh with ⟨_, g, _⟩ | g
    · rw [g] at ex
      cases xs with
      | nil =>
        cases dxs
        exact absurd rfl hf
      | cons _ _ => cases ex
    · exact g
  have e1 : Ex H0' (upd (upd H0' dx (.xd [])) q (SlX.SlO q (C.cls c) dx us)) := fun a o h => by
    rw [upd_ne (fun z => by rw [z, h2] at h; cases h), upd_ne (fun z => by rw [z, hd] at h; cases h)]
    exact h
  refine ⟨_, ⟨V.exb.trans e1, fun a o h => ?_, fun a g1 g2 => ?_⟩, .ob (dx := dx) (xs := xs) ?_ ?_ (dxs.mono e1)⟩
  · by_cases ha : a = q
    · rw [ha, upd_same] at h
      rw [ha, hh2.1]
      exact h
    · rw [upd_ne ha] at h
      by_cases hb : a = dx
      · rw [hb, upd_same] at h
        rw [hb, hh2.2]
        exact h
      · rw [upd_ne hb] at h
        exact V.ex a o h
  · have n1 : a ≠ q := fun z => g1 (by rw [z]; exact hx)
    have n2 : a ≠ dx := fun z => g1 (by rw [z]; exact hdx)
    have eE : upd (upd Hc dx (.own q)) q (.ins (C.cls c) dx []) a = Hc a := by rw [upd_ne n1, upd_ne n2]
    obtain ⟨r1, r2⟩ := V.out a (by show upd _ _ _ _ ≠ none; rw [eE]; exact g1) g2 (fun z => z.elim n1 n2)
    exact ⟨by rw [upd_ne n1, upd_ne n2]; exact r1, r2.trans eE⟩
  · rw [upd_same, ← ex]
  · rw [upd_ne n, upd_same]
theorem init_ok {x qual sn : Str} {st : Stmt} {f : Addr} {fd : FuncData} {N ps : List Str} {k c : Nat} {R : List B → List B → Prop} (F : Fun K x qual st f fd) (S : FnScope N (sn :: ps) (defScope st)) (hb : Binds K fd (sn :: ps) []) (len : ∀ bs r, R bs r → bs.length = ps.length ∧ r ≠ [])
    (hbody : ∀ (cdv : Value) (A : Around) (outer : List PySem.Env) (s : Shared) (H : Hp) (E : XK) (dx : Addr) (bs fs : List B), Room k (A.deeper (envOfC qual (defScope st) s.heap.objs.size f cdv)) → R bs fs →
      SB C (cxOf CX0 P w K mg base N qual (defScope st) f cdv A outer s H E).nox (defBody st) (.ow (.ins c dx []) :: (bs.map Sl.va ++ List.replicate (N.length - (bs.length + 1)) .un)) (endI c dx fs)) : FnR P w K mg base CX0 (k + 1) f (spI C c R) := by
  have G : FnOk P w K mg base CX0 (k + 1) f fd (sn :: ps) (spI C c R) := by
    refine F.ok S (fun vs H Q E h => ?_) (fun cdv A outer s H vs Q E hr h => ?_)
    · obtain ⟨a, dx, H0, Hc, vs', bs, fs, rfl, _, _, _, _, _, d, hR, _⟩ := h
      rw [List.length_cons, List.length_cons, d.len, (len bs fs hR).1]
    · obtain ⟨a, dx, H0, Hc, vs', bs, fs, rfl, rfl, hx, hdx, ne, e, d, hR, q⟩ := h
      refine ⟨_, hbody cdv A outer s _ E dx bs fs hr hR, _, H0, sat_init e d hx hdx ne, ?_, ?_, ?_, ?_, ?_⟩
      · intro ρ' p σ' G G' g W
        obtain ⟨r, rfl⟩ := p
        obtain ⟨H0'', s1, d1⟩ := sat_made (β := ⟨H0, Hc, fun _ => False, []⟩) hx hdx ne W (len bs fs hR).2
        exact q H0'' G' s1 d1
      · intro b ρ' p
        exact p.elim
      · intro ρ' p
        exact p.elim
      · intro ρ' p
        exact p.elim
      · intro b ρ' p
        exact p.elim
  have z := G.raw hb .nil
  simp only [List.append_nil] at z
  exact z
end
end Q
end

/-! text LayJ -/
section
set_option Elab.async false
set_option linter.all false
set_option maxRecDepth 100000
/-! dicts of whole numbers -/
namespace Q
open PySem PySem.Spec PyProof.Rows L2

def dget (kbs : List (Int × B)) (k : Int) : Option B := (kbs.find? fun q => decide (q.1 = k)).map (·.2)
def dput (kbs : List (Int × B)) (k : Int) (x : B) : List (Int × B) :=
  if kbs.any fun q => decide (q.1 = k) then kbs.map fun q => if q.1 = k then (q.1, x) else q else kbs ++ [(k, x)]
/-- keys and values, in their order -/
inductive DK (C : Ct) (H : Hp) : List (Key × V) → List (Int × B) → Prop
  | nil : DK C H [] []
  | cons {k : Int} {v : V} {b : B} {r : List (Key × V)} {s : List (Int × B)} : Den C H v b → DK C H r s → DK C H ((Sum.inl k, v) :: r) ((k, b) :: s)
section
variable {C : Ct} {H H' : Hp}
theorem DK.of : ∀ {kvs : List (Key × V)} {kbs : List (Int × B)}, kvs.map (·.1) = kbs.map (fun q => Sum.inl q.1) → DenAll C H (kvs.map (·.2)) (kbs.map (·.2)) → DK C H kvs kbs
  | [], [], _, _ => .nil
  | [], _ :: _, h, _ => by cases h
  | _ :: _, [], h, _ => by cases h
  | (k, v) :: r, (k', b) :: s, h, d => by
    simp only [List.map_cons, List.cons.injEq] at h
    obtain ⟨h1, h2⟩ := h
    subst h1
    cases d with
    | cons d1 d2 => exact .cons d1 (DK.of h2 d2)
theorem DK.ks : ∀ {kvs : List (Key × V)} {kbs : List (Int × B)}, DK C H kvs kbs → kvs.map (·.1) = kbs.map (fun q => Sum.inl q.1)
  | _, _, .nil => rfl
  | _, _, .cons _ r => by simp only [List.map_cons, r.ks]
theorem DK.vs : ∀ {kvs : List (Key × V)} {kbs : List (Int × B)}, DK C H kvs kbs → DenAll C H (kvs.map (·.2)) (kbs.map (·.2))
  | _, _, .nil => .nil
  | _, _, .cons d r => .cons d r.vs
theorem DK.len : ∀ {kvs : List (Key × V)} {kbs : List (Int × B)}, DK C H kvs kbs → kvs.length = kbs.length
  | _, _, .nil => rfl
  | _, _, .cons _ r => congrArg Nat.succ r.len
theorem DK.mono (e : Ex H H') : ∀ {kvs : List (Key × V)} {kbs : List (Int × B)}, DK C H kvs kbs → DK C H' kvs kbs
  | _, _, .nil => .nil
  | _, _, .cons d r => .cons (d.mono e) (r.mono e)
theorem DK.get {k : Int} : ∀ {kvs : List (Key × V)} {kbs : List (Int × B)}, DK C H kvs kbs → (∀ x, dget kbs k = some x → ∃ v, valV kvs (Sum.inl k) = some v ∧ Den C H v x) ∧ (dget kbs k = none → valV kvs (Sum.inl k) = none)
  | _, _, .nil => ⟨fun x h => (nomatch h), fun _ => rfl⟩
  | (Sum.inl k', v) :: r, (_, b) :: s, .cons d q => by
    by_cases hk : k' = k
    · subst hk
      refine ⟨fun x h => ⟨v, valV_pos rfl, ?_⟩, fun h => ?_⟩
      · simp [dget] at h
        subst h
        exact d
      · simp [dget] at h
    · have e1 : dget ((k', b) :: s) k = dget s k := by simp [dget, List.find?_cons, hk]
      have e2 : valV ((Sum.inl k', v) :: r) (Sum.inl k : Key) = valV r (Sum.inl k) := valV_neg (fun z => hk (Sum.inl.inj z))
      rw [e1, e2]
      exact DK.get q
theorem DK.any {k : Int} : ∀ {kvs : List (Key × V)} {kbs : List (Int × B)}, DK C H kvs kbs → (kvs.any fun kv => decide (kv.1 = (Sum.inl k : Key))) = (kbs.any fun q => decide (q.1 = k))
  | _, _, .nil => rfl
  | (Sum.inl k', v) :: r, (_, b) :: s, .cons d q => by
    simp only [List.any_cons, Sum.inl.injEq]
    rw [q.any]
theorem DK.map {k : Int} {v : V} {x : B} (dx : Den C H v x) : ∀ {kvs : List (Key × V)} {kbs : List (Int × B)}, DK C H kvs kbs → DK C H (kvs.map fun kv => if kv.1 = (Sum.inl k : Key) then (kv.1, v) else kv) (kbs.map fun q => if q.1 = k then (q.1, x) else q)
  | _, _, .nil => .nil
  | (Sum.inl k', v') :: r, (_, b) :: s, .cons d q => by
    simp only [List.map_cons, Sum.inl.injEq]
    by_cases hk : k' = k
    · rw [if_pos hk, if_pos hk]
      exact .cons dx (DK.map dx q)
    · rw [if_neg hk, if_neg hk]
      exact .cons d (DK.map dx q)
theorem DK.snoc {k : Int} {v : V} {x : B} (dx : Den C H v x) : ∀ {kvs : List (Key × V)} {kbs : List (Int × B)}, DK C H kvs kbs → DK C H (kvs ++ [(Sum.inl k, v)]) (kbs ++ [(k, x)])
  | _, _, .nil => .cons dx .nil
  | _, _, .cons d q => .cons d (DK.snoc dx q)
theorem DK.put {k : Int} {v : V} {x : B} {kvs : List (Key × V)} {kbs : List (Int × B)} (d : DK C H kvs kbs) (dx : Den C H v x) : DK C H (putK kvs (Sum.inl k) v) (dput kbs k x) := by
  unfold putK dput
  rw [d.any]
  split
  · exact d.map dx
  · exact d.snoc dx
theorem DK.at : ∀ {kvs : List (Key × V)} {kbs : List (Int × B)}, DK C H kvs kbs → ∀ {i : Nat} {k : Key} {v : V}, kvs[i]? = some (k, v) → ∃ k' b, k = Sum.inl k' ∧ kbs[i]? = some (k', b) ∧ Den C H v b
  | _, _, .nil, i, k, v, h => by simp at h
  | _, _, .cons d q, 0, k, v, h => by
    cases Option.some.inj h
    exact ⟨_, _, rfl, rfl, d⟩
  | _, _, .cons d q, i + 1, k, v, h => DK.at q (i := i) (k := k) (v := v) h
end
section
variable {X : Cx} {C : Ct} {e a b : Expr} {es : List Expr} {ρ ρ1 ρ2 ρ3 : List Sl} {x y z : B} {pos : Pos} {rest : List Stmt} {post : Out → Prop} {kbs : List (Int × B)}
/-- a new dict -/
theorem f_dic : FB C X (.Dict [] [] pos) ρ (.dic []) ρ := pe_mono pe_dnewK fun σ H Q ⟨β, H0, V, k⟩ p hp => by
  have s := Stp.garb (o := .dK []) V.ex hp
  obtain ⟨f1, f2, f3⟩ := V.fresh hp
  exact k p H0 _ (Evl.Ex.refl _) (V.stp s) f1 ⟨[], upd_same, rfl, .nil⟩ f2 f3
/-- d[k], d owned -/
theorem e_dget (i : Nat) {n : Str} {p : Pos} {j : Nat} {k : Int} (hr : Room j X.A) (hi : EB C X b ρ (.int k) ρ) (h : dget kbs k = some x) (hρ : ρ[i]? = some (.ow (.dic kbs)) := by rfl) (hN : X.N[i]? = some n := by rfl)
    (hv : Vis X.env.scope n := by first | exact Or.inl rfl | exact Or.inr (Or.inl rfl) | exact Or.inr (Or.inr rfl)) (hs : NoSl b := by intro _ _; rfl)
    (hd : (n == ("__debug__" : Str)) = false := by decide) (hcd : (n == ("__classdict__" : Str)) = false := by decide) : EB C X (.Subscript (.Name n p) b pos) ρ x ρ :=
  pe_mono (pe_dget (by have := hr.un; omega) (pe_var hN hv hd hcd) hi hs) fun σ H Q ⟨β, H0, V, q⟩ => by
    obtain ⟨p, h1, h2, ⟨kvs, h3, hk, d⟩, h4⟩ := V.ow i _ hρ
    refine ⟨_, h1, β, H0, V, fun u H2 H2' e2 V2 d2 => ?_⟩
    obtain ⟨p', k1, k2, ⟨kvs', k3, hk', d'⟩, k4⟩ := V2.ow i _ hρ
    rw [h1] at k1
    cases k1
    cases d2
    obtain ⟨w, w1, w2⟩ := ((DK.of hk' d').get (k := k)).1 x h
    exact ⟨p, w, rfl, .inl ⟨kvs', Sum.inl k, .inl k3, rfl, w1.symm⟩, q w H2 H2' e2 V2 w2⟩
/-- d.get(k, e), d owned -/
theorem e_dgetD (i : Nat) {n : Str} {p ap : Pos} {j : Nat} {k : Int} (hr : Room j X.A) (hi : EB C X a ρ (.int k) ρ) (he : EB C X b ρ y ρ) (h : (dget kbs k).getD y = x) (m : M2 X (.Name n p) "get" ap a b pos) (hρ : ρ[i]? = some (.ow (.dic kbs)) := by rfl) (hN : X.N[i]? = some n := by rfl)
    (hv : Vis X.env.scope n := by first | exact Or.inl rfl | exact Or.inr (Or.inl rfl) | exact Or.inr (Or.inr rfl))
    (hd : (n == ("__debug__" : Str)) = false := by decide) (hcd : (n == ("__classdict__" : Str)) = false := by decide) : EB C X (.Call (.Attribute (.Name n p) "get" ap) [a, b] [] pos) ρ x ρ :=
  pe_mono (pe_dget2 (by have := hr.un; omega) (pe_var hN hv hd hcd) hi he m) fun σ H Q ⟨β, H0, V, q⟩ => by
    obtain ⟨p, h1, h2, ⟨kvs, h3, hk, d⟩, h4⟩ := V.ow i _ hρ
    refine ⟨_, h1, p, rfl, .inl ⟨kvs, .inl h3⟩, β, H0, V, fun u H2 H2' e2 V2 d2 => ⟨β, H2, V2, fun w H3 H3' e3 V3 d3 => ?_⟩⟩
    obtain ⟨p', k1, k2, ⟨kvs', k3, hk', d'⟩, k4⟩ := V3.ow i _ hρ
    rw [h1] at k1
    cases k1
    cases d2
    have g := (DK.of hk' d').get (k := k)
    refine ⟨_, .inl ⟨kvs', Sum.inl k, .inl k3, rfl, rfl⟩, ?_⟩
    cases hq : dget kbs k with
    | none =>
      rw [g.2 hq]
      rw [hq] at h
      subst h
      exact q w H3 H3' (e2.trans e3) V3 d3
    | some z =>
      obtain ⟨w', w1, w2⟩ := g.1 z hq
      rw [w1]
      rw [hq] at h
      subst h
      exact q w' H3 H3' (e2.trans e3) V3 w2
/-- d[k] = e, d owned -/
theorem q_dput (i : Nat) {n : Str} {p tp : Pos} {j : Nat} {k : Int} (hr : Room j X.A) (he : EB C X e ρ x ρ1) (hi : EB C X b ρ1 (.int k) ρ1) (hl : kbs.length < sizeLine) (q : SB C X rest (ρ1.set i (.ow (.dic (dput kbs k x)))) post) (h : ρ1[i]? = some (.ow (.dic kbs)) := by rfl) (hN : X.N[i]? = some n := by rfl)
    (hv : Vis X.env.scope n := by first | exact Or.inl rfl | exact Or.inr (Or.inl rfl) | exact Or.inr (Or.inr rfl)) (hd : (n == ("__debug__" : Str)) = false := by decide) (hcd : (n == ("__classdict__" : Str)) = false := by decide)
    (hs : swapsWith e (some (.Subscript (.Name n p) b tp)) pos.line X.env = pure false := by rfl) : SB C X (.Assign [.Subscript (.Name n p) b tp] e pos :: rest) ρ post :=
  q_cons (ps_mono (ps_dput (by have := hr.un; omega) (pe_var hN hv hd hcd) hi he hs) fun D σ H ⟨β, H0, V, K⟩ => ⟨β, H0, V, fun v H1 H1' e1 V1 d1 => by
    obtain ⟨p1, h1, h2, ⟨kvs, h3, hk, d⟩, h4⟩ := V1.ow i _ h
    refine ⟨_, h1, β, H1, V1, fun u H2 H2' e2 V2 d2 => ?_⟩
    cases d2
    obtain ⟨p2, k1, k2, ⟨kvs', k3, hk', d'⟩, k4⟩ := V2.ow i _ h
    rw [h1] at k1
    cases k1
    have dk := DK.of hk' d'
    have dn := dk.put (k := k) (d1.mono e2)
    exact ⟨p1, _, rfl, .inl ⟨kvs', Sum.inl k, k3, rfl, by rw [dk.len]; exact hl, rfl⟩, K.1 _ q σ H2 _ (e1.trans e2) (V2.write (b' := .dic _) h h1 ⟨_, upd_same, dn.ks, dn.vs⟩ k3 trivial (fun z => z))⟩⟩)
/-- the dict in slot i is given to all, as it stands -/
theorem pe_lockd {td : TE} (he : PE X e td) : PE X e (fun σ H Q => td σ H fun x H1 => ∃ d kvs, x = .ref d ∧ H1 d = some (.dK kvs) ∧ ∀ o, Q x (upd H1 d (.frz o (.dK kvs)))) := ⟨fun pins s σ H Q I h =>
  thn (he.run pins s σ H _ I h) fun u s1 ⟨x, H1, I1, rx, d, kvs, ex, hd, q⟩ => by
    obtain ⟨od, I2⟩ := I1.lock hd trivial
    exact ⟨x, _, I2, rx, q od⟩⟩
theorem e_dfrz (i : Nat) {n : Str} {p : Pos} (h0 : i ≠ 0 := by decide) (hρ : ρ[i]? = some (.ow (.dic kbs)) := by rfl) (hN : X.N[i]? = some n := by rfl)
    (hv : Vis X.env.scope n := by first | exact Or.inl rfl | exact Or.inr (Or.inl rfl) | exact Or.inr (Or.inr rfl))
    (hd : (n == ("__debug__" : Str)) = false := by decide) (hcd : (n == ("__classdict__" : Str)) = false := by decide) : EB C X (.Name n p) ρ (.dic (kbs.map (·.1)) (kbs.map (·.2))) (ρ.set i .un) :=
  pe_mono (pe_lockd (pe_var hN hv hd hcd)) fun σ H Q ⟨β, H0, V, k⟩ => by
    obtain ⟨p, h1, h2, ⟨kvs, h3, hk, d⟩, h4⟩ := V.ow i _ hρ
    refine ⟨_, h1, p, kvs, rfl, h3, fun o => ?_⟩
    have hE : β.E p = none := h4.elim And.left fun z => absurd z.1 h0
    have e0 : Ex H0 (upd H0 p (.frz o (.dK kvs))) := Evl.Ex.new h2
    have hl : i < ρ.length := (List.getElem?_eq_some_iff.mp hρ).1
    have W : Sat C β σ (upd H0 p (.frz o (.dK kvs))) (upd H p (.frz o (.dK kvs))) (ρ.set i .un) := by
      refine ⟨V.exb.trans e0, fun a u e => ?_, fun a e1 e2 e3 => ?_, fun a e => ?_, V.bE, by rw [List.length_set]; exact V.len, fun j c e => ?_, fun j c e => ?_, fun j k bj bk q e1 e2 e3 e4 => ?_, ⟨tabs_upd V.tb.1 h3 trivial, V.tb.2⟩, fun j T h => V.tk j T (set_tk h (fun _ z => nomatch z))⟩
      · by_cases ha : a = p
        · rw [ha, upd_same] at e ⊢
          exact e
        · rw [upd_ne ha] at e ⊢
          exact V.ex a u e
      · have ne : a ≠ p := fun z => e1 (by rw [z]; exact hE)
        rw [upd_ne ne, upd_ne ne]
        exact V.out a e1 e2 e3
      · have ne : a ≠ p := fun z => V.bE a e (by rw [z]; exact hE)
        rw [upd_ne ne, upd_ne ne]
        exact V.bo a e
      · by_cases hj : i = j
        · subst hj
          rw [List.getElem?_set_self hl] at e
          cases e
        · rw [List.getElem?_set_ne hj] at e
          obtain ⟨v, q1, q2⟩ := V.va j c e
          exact ⟨v, q1, q2.mono e0⟩
      · by_cases hj : i = j
        · subst hj
          rw [List.getElem?_set_self hl] at e
          cases e
        · rw [List.getElem?_set_ne hj] at e
          obtain ⟨r, r1, r2, r3, r4⟩ := V.ow j c e
          have ne : r ≠ p := fun z => hj (V.sep i j _ c p hρ e h1 (by rw [← z]; exact r1))
          refine ⟨r, r1, by rw [upd_ne ne]; exact r2, ?_, r4⟩
          have r5 : OwnAt C H0 (upd H p (.frz o (.dK kvs))) r c := r3.other ne h3 trivial
          cases c with
          | lst bs => obtain ⟨us, q, d⟩ := r5; exact ⟨us, q, d.mono e0⟩
          | dic bs => obtain ⟨us, q, k, d⟩ := r5; exact ⟨us, q, k, d.mono e0⟩
          | lk _ _ _ _ => obtain ⟨g, q, k, d⟩ := r5; exact ⟨g, q, k, d.mono e0⟩
          | ins c dx ws =>
            obtain ⟨us, n, hd, q, d⟩ := r5
            have nd : dx ≠ p := fun z => by
              rw [z] at q
              rcases q with ⟨_, _, h5⟩ | ⟨_, h5⟩ <;> (rw [upd_same] at h5; cases h5)
            exact ⟨us, n, by rw [upd_ne nd]; exact hd, q, d.mono e0⟩
      · have g : ∀ (j : Nat) (c : OB), (ρ.set i Sl.un)[j]? = some (.ow c) → ρ[j]? = some (.ow c) := fun j c e => by
          by_cases hj : i = j
          · subst hj
            rw [List.getElem?_set_self hl] at e
            cases e
          · rw [List.getElem?_set_ne hj] at e
            exact e
        exact V.sep j k _ _ q (g j bj e1) (g k bk e2) e3 e4
    have dk := DK.of hk d
    refine k _ _ _ e0 W (.dic upd_same (by rw [hk, List.map_map]; rfl) (d.mono e0))
def pairK (p : Int × B) : B := .tup [.int p.1, p.2]
/-- for k, v in e.items(), e a dict that stays -/
theorem v_items {elts : List Expr} {kk : Nat} {tp ap : Pos} {ks : List Int} {vs : List B} (he : EB C X e ρ (.dic ks vs) ρ1) (hbase : attributeBase e "items" X.env (eval e X.env) = eval e X.env := by rfl) (hline : (ap.endLine == pos.line) = true := by rfl) :
    VB C X (.Tuple elts kk tp) (.Call (.Attribute e "items" ap) [] [] pos) ρ ((ks.zip vs).map pairK) ρ1 :=
  pi_mono (pi_items he hbase hline) fun σ H R ⟨β, H0, V, k⟩ => ⟨β, H0, V, fun v H1 H1' e1 V1 d1 => by
    cases d1 with
    | @dic a o kvs _ _ h1 hk r =>
      have hks : ks.length = vs.length := by
        have q1 := congrArg List.length hk
        have q2 := r.len
        simp only [List.length_map] at q1 q2
        omega
      have dk : DK C H1 kvs (ks.zip vs) := DK.of (by rw [hk]; have := congrArg (List.map (Sum.inl : Int → Key)) (List.map_fst_zip (l₁ := ks) (l₂ := vs) (by omega)); rw [← this, List.map_map]; rfl) (by rw [List.map_snd_zip (l₁ := ks) (l₂ := vs) (by omega)]; exact r)
      have hl : kvs.length = ((ks.zip vs).map pairK).length := by rw [List.length_map]; exact dk.len
      refine ⟨a, o, kvs, rfl, V1.ex _ _ h1, k _ H1 H1' e1 V1 ⟨fun i H e hi => ⟨e _ _ h1, by rw [hl]; exact hi⟩, fun H e => ⟨e _ _ h1, by rw [hl]; exact Nat.le_refl _⟩, fun i H v H' Hc e2 e3 hy b hb => ?_⟩⟩
      obtain ⟨T, kk, w, hkv, rfl, hT, rfl⟩ := hy
      obtain ⟨k', b', rfl, g1, g2⟩ := dk.at hkv
      rw [List.getElem?_map, g1] at hb
      cases hb
      have s := Stp.new (o := .tup [.int k', w]) e3 hT
      exact ⟨_, s, .tup upd_same (.cons (.int k') (.cons ((g2.mono e2).mono s.e0) .nil))⟩⟩
end
end Q
end

/-! text LayK -/
section
set_option Elab.async false
set_option linter.all false
set_option maxRecDepth 100000
/-! loops over a dict that is owned; more targets; sorted -/
namespace Q
open PySem PySem.Spec PyProof.Rows L2
section
variable {X : Cx} {C : Ct} {e a b c : Expr} {es : List Expr} {ρ ρ1 ρ2 ρ3 : List Sl} {x y z : B} {xs ys : List B} {pos p : Pos} {rest : List Stmt} {post : Out → Prop} {kbs : List (Int × B)}
/-- for k, v in d.items(), d owned: it is locked meanwhile -/
theorem q_forD (i : Nat) {elts : List Expr} {kk : Nat} {tp ap ip : Pos} {n : Str} {body : List Stmt} (W : Addr → Obj → List (Key × V) → Nat → List Sl → Prop) (hp : PassesOwn (model X.prog X.w) X.A X.env X.xe) (hc : X.calm = true)
    (h0 : ∀ d o kvs, ∃ ρ', Weak (ρ.set i (.ow (.lk d o kvs kbs))) ρ' ∧ W d o kvs 0 ρ')
    (hs : ∀ d o kvs j k x ρ', kbs[j]? = some (k, x) → W d o kvs j ρ' → ρ'[i]? = some (.ow (.lk d o kvs kbs)) ∧ ∃ ρ'' js, GB C X (.Tuple elts kk tp) ρ' (.tup [.int k, x]) ρ'' js ∧ SB C X body ρ'' (LoopP (W d o kvs (j + 1)) (fun _ => False)))
    (hd : ∀ d o kvs ρ', W d o kvs kbs.length ρ' → ρ'[i]? = some (.ow (.lk d o kvs kbs)) ∧ SB C X rest (ρ'.set i (.ow (.dic kbs))) post)
    (hρ : ρ[i]? = some (.ow (.dic kbs)) := by rfl) (hN : X.N[i]? = some n := by rfl)
    (hv : Vis X.env.scope n := by first | exact Or.inl rfl | exact Or.inr (Or.inl rfl) | exact Or.inr (Or.inr rfl)) (hdb : (n == ("__debug__" : Str)) = false := by decide) (hcd : (n == ("__classdict__" : Str)) = false := by decide)
    (hbase : attributeBase (.Name n ip) "items" X.env (eval (.Name n ip) X.env) = eval (.Name n ip) X.env := by rfl) (hline : (ap.endLine == p.line) = true := by rfl)
    (hf : ∀ x, foldedSetIterable (.Call (.Attribute (.Name n ip) "items" ap) [] [] p) X.env x = pure x := by intro _; rfl) :
    SB C X (.For (.Tuple elts kk tp) (.Call (.Attribute (.Name n ip) "items" ap) [] [] p) body [] pos :: rest) ρ post := by
  refine q_cons ?_
  refine ps_mono (ps_lock (ps_for hp hc (pi_items (pe_var hN hv hdb hcd) hbase hline) (g := fun v σ H Q => ∃ ρ x ρ' js, GB C X (.Tuple elts kk tp) ρ x ρ' js ∧ gOf C ρ x ρ' js v σ H Q) (tb := fun D σ H => ∃ ρ po, SB C X body ρ po ∧ sOf C ρ po D σ H) ⟨fun pins s σ H v u Q I r ⟨ρ, x, ρ', js, g, q⟩ => g.run pins s σ H v u Q I r q⟩
    ⟨fun pins s σ H D I ⟨ρ, po, g, q⟩ => g.run pins s σ H D I q⟩ hf)) ?_
  intro D σ H ⟨β, H0, V, K⟩
  obtain ⟨d, h1, h2, ⟨kvs, h3, hk, r⟩, h4⟩ := V.ow i _ hρ
  refine ⟨d, .dK kvs, h3, trivial, fun o => ?_⟩
  have dk : DK C H0 kvs kbs := DK.of hk r
  have VL : Sat C β σ H0 (upd H d (.frz o (.dK kvs))) (ρ.set i (.ow (.lk d o kvs kbs))) := V.write (b' := .lk d o kvs kbs) hρ h1 ⟨rfl, upd_same, hk, r⟩ h3 trivial (fun z => z)
  refine ⟨_, h1, d, o, kvs, rfl, upd_same, ?_⟩
  obtain ⟨ρs, ws, w0⟩ := h0 d o kvs
  have kl : kvs.length = kbs.length := dk.len
  -- the lock is seen in each state
  have look : ∀ {ρ' : List Sl} {σ' : L2.St} {Hc H' : Hp}, Sat C β σ' Hc H' ρ' → ρ'[i]? = some (.ow (.lk d o kvs kbs)) → H' d = some (.frz o (.dK kvs)) := fun V' h' => by
    obtain ⟨p', _, _, ⟨g1, g2, _⟩, _⟩ := V'.ow i _ h'
    rw [g1] at g2
    exact g2
  refine ⟨fun j m σ' H' => m = kbs.length - j ∧ j ≤ kbs.length ∧ ∃ ρ' Hc, W d o kvs j ρ' ∧ Ex H0 Hc ∧ Sat C β σ' Hc H' ρ', ⟨kbs.length, by simp, Nat.zero_le _, ρs, H0, w0, Evl.Ex.refl _, VL.weak ws⟩, ?_⟩
  rintro j m σ' H' ⟨rfl, hj, ρ', Hc, w, c1, V2⟩
  by_cases hlt : j < kbs.length
  · obtain ⟨⟨k, x⟩, hx⟩ : ∃ q, kbs[j]? = some q := ⟨_, List.getElem?_eq_getElem hlt⟩
    obtain ⟨hl, ρ'', js, hg, hb⟩ := hs d o kvs j k x ρ' hx w
    refine .inr ⟨⟨look V2 hl, by omega⟩, fun σ2 H2 => j + 1 ≤ kbs.length ∧ ∃ ρ2 Hc2, W d o kvs (j + 1) ρ2 ∧ Ex H0 Hc2 ∧ Sat C β σ2 Hc2 H2 ρ2, fun σ2 H2 h => ⟨kbs.length - (j + 1), by omega, rfl, h⟩, fun v H2 y => ?_⟩
    obtain ⟨T, k', v', hkv, rfl, hT, rfl⟩ := y
    obtain ⟨k2, b2, rfl, g1, g2⟩ := dk.at hkv
    rw [hx] at g1
    cases g1
    have s := Stp.new (o := .tup [.int k, v']) V2.ex hT
    have V3 := V2.stp s
    have dd : Den C (upd Hc T (.tup [.int k, v'])) (.ref T) (.tup [.int k, x]) := .tup upd_same (.cons (.int _) (.cons ((g2.mono c1).mono s.e0) .nil))
    refine ⟨ρ', _, ρ'', js, hg, β, _, V3, dd, fun σ3 H3 H3' e3 V4 _ => ⟨ρ'', _, hb, β, H3, V4, ?_, ?_, ?_, ?_, ?_⟩⟩
    · intro ρ4 ⟨ρ5, w5, q5⟩ σ4 H4 H4' e4 V5
      exact ⟨hlt, ρ5, H4, q5, ((c1.trans s.e0).trans e3).trans e4, V5.weak w5⟩
    · intro b ρ4 q4
      exact q4.elim
    · intro ρ4 q4
      exact q4.elim
    · intro ρ4 ⟨ρ5, w5, q5⟩ σ4 H4 H4' e4 V5
      exact ⟨hlt, ρ5, H4, q5, ((c1.trans s.e0).trans e3).trans e4, V5.weak w5⟩
    · intro bs ρ4 q4
      exact q4.elim
  · have e : j = kbs.length := by omega
    subst e
    obtain ⟨hl, hb⟩ := hd d o kvs ρ' w
    refine .inl ⟨⟨look V2 hl, by omega⟩, look V2 hl, ?_⟩
    obtain ⟨p', g1, _, ⟨g2, g3, g4, g5⟩, _⟩ := V2.ow i _ hl
    subst g2
    exact K.1 _ hb σ' Hc _ c1 (V2.write (b' := .dic kbs) hl g1 ⟨kvs, upd_same, g4, g5⟩ g3 trivial (fun z => z))
/-- after a new owned thing, values -/
theorem own_then {β : Bs} {σ : L2.St} {H0 H1 H1' : Hp} {p : Addr} {o : OB} {Q : List V → Hp → Prop} (V1 : Sat C β σ H1 H1' ρ) (hno : noOw ρ) (f1 : H1 p = none) (f2 : OwnAt C H1 H1' p o)
    (k : ∀ vs H2 H2', Ex H1 H2 → Sat C β σ H2 H2' ρ → DenAll C H2 vs xs → H2 p = none → OwnAt C H2 H2' p o → Q vs H2') : aOf C ρ xs ρ σ H1' Q := by
  have hb : Blk ρ [] ρ := ⟨rfl, fun l c h => ⟨h, by simp⟩, fun l c h => no_ow hno h, fun l T h => no_tk hno h⟩
  have pD : H1' p ≠ none := f2.there
  refine ⟨⟨H1, H1', fun _ => False, []⟩, H1, sat_blk V1 hb (Evl.Ex.refl _) V1.ex, fun vs H2 H2' e2 V2 d => ?_⟩
  have st : Stp H1 H1' H2 H2' := ⟨e2, V2.ex, fun a h1 h2 => V2.out a h1 h2 (fun z => z)⟩
  obtain ⟨r1, r2⟩ := st.out p pD f1
  exact k vs H2 H2' e2 (V1.stp st) d r1 (f2.mono e2 st.out f1)
/-- a, b, c = a new dict or list, y, z -/
theorem q_par3 (i j l : Nat) {n m q : Str} {px py pz pt : Pos} {kt k2 : Nat} {pt2 : Pos} {o : OB} (ha : FB C X a ρ o ρ) (hbc : AB C X [b, c] ρ [y, z] ρ) (hc : X.calm = true) (hN : X.N.Nodup) (hno : noOw ρ) (k : SB C X rest (((ρ.set i (.ow o)).set j (.va y)).set l (.va z)) post)
    (hij : i ≠ j := by decide) (hil : i ≠ l := by decide) (hjl : j ≠ l := by decide) (hi : X.N[i]? = some n := by rfl) (hj : X.N[j]? = some m := by rfl) (hl : X.N[l]? = some q := by rfl)
    (hx : X.env.scope.names.lookup n = some .local := by rfl) (hy : X.env.scope.names.lookup m = some .local := by rfl) (hz : X.env.scope.names.lookup q = some .local := by rfl)
    (hw : swappedStores [.Tuple [.Name n px, .Name m py, .Name q pz] kt pt] (.Tuple [a, b, c] k2 pt2) X.env = pure (some [n, m, q]) := by rfl)
    (hs : swapsWithSole [.Tuple [.Name n px, .Name m py, .Name q pz] kt pt] (.Tuple [a, b, c] k2 pt2) pos.line X.env = pure false := by rfl)
    (hst : starEach [a, b, c] X.env = (false, eval a X.env) :: starEach [b, c] X.env := by rfl) (h0 : i ≠ 0 := by decide) (pl : o.pl = true := by rfl) : SB C X (.Assign [.Tuple [.Name n px, .Name m py, .Name q pz] kt pt] (.Tuple [a, b, c] k2 pt2) pos :: rest) ρ post :=
  q_cons (ps_mono (ps_par3 hc hN hi hj hl hij hil hjl hx hy hz (L2.pa_cons ha hbc hst) hw hs) fun D σ H ⟨β, H0, V, K⟩ => ⟨β, H0, V, fun p H1 H1' e1 V1 f1 f2 f3 f4 => own_then (H0 := H0) V1 hno f1 f2 fun vs H2 H2' e2 V2 d g1 g2 => by
    cases d with
    | cons d1 d =>
      cases d with
      | cons d2 d =>
        cases d
        refine ⟨_, _, _, rfl, K.1 _ k _ H2 H2' (e1.trans e2) (((V2.own g1 g2 (.new f3 h0 pl) f4).set d1).set d2)⟩⟩)
/-- a, b = y, a new list, over a tuple (a or b is read in a comprehension) -/
theorem q_parC (i j : Nat) {n m : Str} {px py pt : Pos} {kt k2 : Nat} {pt2 : Pos} {o : OB} (ha : EB C X a ρ x ρ1) (hb : FB C X b ρ1 o ρ2) (hc : X.calm = true) (hN : X.N.Nodup) (k : SB C X rest ((ρ2.set i (.va x)).set j (.ow o)) post) (hij : i ≠ j := by decide) (hi : X.N[i]? = some n := by rfl) (hj : X.N[j]? = some m := by rfl)
    (hx : Loc X.env.scope n := by first | exact Or.inl rfl | exact Or.inr rfl) (hy : Loc X.env.scope m := by first | exact Or.inl rfl | exact Or.inr rfl)
    (hf : X.fn n = true ∨ X.env.scope.names.lookup n = some .local := by first | exact .inl rfl | exact .inr rfl) (hf2 : X.fn m = true ∨ X.env.scope.names.lookup m = some .local := by first | exact .inl rfl | exact .inr rfl)
    (hs1 : (assignEach [.Name n px, .Name m py] X.env).map (·.2) = assign (.Name n px) X.env :: (assignEach [.Name m py] X.env).map (·.2) := by rfl) (hs2 : (assignEach [.Name m py] X.env).map (·.2) = assign (.Name m py) X.env :: (assignEach [] X.env).map (·.2) := by rfl)
    (hn : (assignEach [.Name n px, .Name m py] X.env).length = 2 := by rfl) (hst0 : (assignEach [.Name n px, .Name m py] X.env).findIdx? (·.1) = none := by rfl)
    (hw : swappedStores [.Tuple [.Name n px, .Name m py] kt pt] (.Tuple [a, b] k2 pt2) X.env = pure none := by rfl) (h1 : (assignEach [.Tuple [.Name n px, .Name m py] kt pt] X.env).map (·.2) = [assign (.Tuple [.Name n px, .Name m py] kt pt) X.env] := by rfl)
    (hs : swapsWithSole [.Tuple [.Name n px, .Name m py] kt pt] (.Tuple [a, b] k2 pt2) pos.line X.env = pure false := by rfl)
    (hst : starEach [a, b] X.env = (false, eval a X.env) :: starEach [b] X.env := by rfl) (hst2 : starEach [b] X.env = [(false, eval b X.env)] := by rfl) (h0 : j ≠ 0 := by decide) (pl : o.pl = true := by rfl) : SB C X (.Assign [.Tuple [.Name n px, .Name m py] kt pt] (.Tuple [a, b] k2 pt2) pos :: rest) ρ post :=
  q_cons (ps_mono (ps_asg (pe_tup (L2.pa_cons ha (L2.pa_cons hb L2.pa_nil hst2) hst)) (pg_tup hc (pgs_cons (pg_name hN hi hx hf) (pgs_cons (pg_name hN hj hy hf2) pgs_nil hs2) hs1) hn hst0) hs hw h1) fun D σ H ⟨β, H0, V, K⟩ => ⟨β, H0, V, fun v H1 H1' e1 V1 d1 => ⟨β, H1, V1, fun p H2 H2' e2 V2 f1 f2 f3 f4 => by
    refine ⟨(by show 2 ≤ sizeLine; decide), fun T hT => ⟨T, _, rfl, .inl (.inl upd_same), rfl, v, _, rfl, _, _, rfl, rfl, ?_⟩⟩
    have s := Stp.garb (o := .tup [v, .ref p]) V2.ex hT
    have V3 := V2.stp s
    obtain ⟨r1, r2⟩ := s.out p f2.there f1
    refine K.1 _ k _ H2 _ (e1.trans e2) ((V3.set (d1.mono e2)).own f1 (f2.mono s.e0 s.out f1) (.new f3 h0 pl) fun l c hl => ?_)
    by_cases hli : i = l
    · subst hli
      have hh : i < ρ2.length := by
        have := (List.getElem?_eq_some_iff.mp hl).1
        rw [List.length_set] at this
        exact this
      rw [List.getElem?_set_self hh] at hl
      cases hl
    · rw [List.getElem?_set_ne hli] at hl
      rw [List.getElem?_set_ne hli]
      exact f4 l c hl⟩⟩)
/-- sorted(e), whole numbers -/
theorem f_sorted {ns : List Int} {ms : List Int} (hm : X.mg "sorted" = none) (ha : EB C X a ρ (.lst (iB ns)) ρ1) (hu : ∀ ns' : List Int, ns'.Perm ns → ns'.Pairwise (· ≤ ·) → ns' = ms) (hg : Gl X "sorted" := by rfl) (hs : starEach [a] X.env = [(false, eval a X.env)] := by rfl) : FB C X (.Call (.Name "sorted" p) [a] [] pos) ρ (.lst (iB ms)) ρ1 :=
  f_callB cr_sortedI hm (by decide +kernel) (a_cons ha a_nil hs) (fun H0 H vs Q d ex q => by
    cases d with
    | cons d r =>
      cases r
      cases d with
      | lst h r =>
        have e := r.ints
        subst e
        exact ⟨_, ns, rfl, .inl (.inl (ex _ _ h)), fun ns' q' hp hs' hq => by
          have := hu ns' hp hs'
          subst this
          exact q q' _ hq (DenAll.of_ints _)⟩) hg (by decide) (by decide) hs rfl
end
end Q
end

/-! text LayL -/
section
set_option Elab.async false
set_option linter.all false
set_option maxRecDepth 100000
/-! texts; len, str, in, == and != by the defs of a class -/
namespace Q
open PySem PySem.Spec PyProof.Rows L2
section
variable {X : Cx} {C : Ct} {e a b c : Expr} {es : List Expr} {ρ ρ1 ρ2 ρ3 : List Sl} {x y z : B} {xs ys : List B} {pos p : Pos}

/-! ### texts -/
theorem e_strI {i : Int} (hm : X.mg "str" = none) (ha : EB C X a ρ (.int i) ρ1) (hl : i.natAbs.log2 < 1920) (hg : Gl X "str" := by rfl) (hs : starEach [a] X.env = [(false, eval a X.env)] := by rfl) : EB C X (.Call (.Name "str" p) [a] [] pos) ρ (.str (toString i)) ρ1 :=
  e_callTy call_str_int hm (by decide +kernel) (a_cons ha a_nil hs) (fun H0 H vs Q d ex q => by
    obtain ⟨v, rfl, dv⟩ := one_den d
    cases den_int dv
    exact ⟨i, rfl, hl, q _ H0 H (Stp.refl ex) (.str _)⟩) hg (by decide) (by decide) hs rfl
theorem e_fmtI {i : Int} (ha : EB C X a ρ (.int i) ρ1) (hl : i.natAbs.log2 < 1920) : EB C X (.FormattedValue a (-1) none pos) ρ (.str (toString i)) ρ1 :=
  pe_mono (pe_fmt ha) fun σ H Q ⟨β, H0, V, k⟩ => ⟨β, H0, V, fun v H1 H1' e1 V1 d1 => by
    cases d1
    exact .inr ⟨i, rfl, hl, k _ H1 H1' e1 V1 (.str _)⟩⟩
theorem e_fmtS {t : Str} (ha : EB C X a ρ (.str t) ρ1) (hl : t.length ≤ sizeLine) : EB C X (.FormattedValue a (-1) none pos) ρ (.str t) ρ1 :=
  pe_mono (pe_fmt ha) fun σ H Q ⟨β, H0, V, k⟩ => ⟨β, H0, V, fun v H1 H1' e1 V1 d1 => by
    cases d1
    exact .inl ⟨t, rfl, hl, k _ H1 H1' e1 V1 (.str _)⟩⟩
theorem e_js1 (ha : EB C X a ρ x ρ1) : EB C X (.JoinedStr [a] pos) ρ x ρ1 := pe_joined1 ha
theorem e_js2 {s t : Str} (ha : EB C X a ρ (.str s) ρ1) (hb : EB C X b ρ1 (.str t) ρ2) (h1 : (Str.empty ++ s).length ≤ sizeLine) (h2 : (Str.empty ++ s ++ t).length ≤ sizeLine) : EB C X (.JoinedStr [a, b] pos) ρ (.str (Str.empty ++ s ++ t)) ρ2 :=
  pe_mono (pe_joined (.cons ha (.cons hb .nil))) fun σ H Q ⟨β, H0, V, k⟩ => ⟨β, H0, V, fun v H1 H1' e1 V1 d1 => by
    cases d1
    exact ⟨s, rfl, h1, β, H1, V1, fun w H2 H2' e2 V2 d2 => by
      cases d2
      exact ⟨t, rfl, h2, k _ H2 H2' (e1.trans e2) V2 (.str _)⟩⟩⟩
/-- sep.join(list) -/
theorem e_join {s : Str} {ts : List Str} {ap : Pos} (ha : EB C X a ρ (.str s) ρ1) (hb : EB C X b ρ1 (.lst (ts.map B.str)) ρ2) (hz : (ts.map (·.length)).sum + ts.length * s.length ≤ 16777216) (hs : starEach [b] X.env = [(false, eval b X.env)] := by rfl)
    (hbase : attributeBase a "join" X.env (eval a X.env) = eval a X.env := by rfl) (hline : (ap.endLine == pos.line) = true := by rfl) : EB C X (.Call (.Attribute a "join" ap) [b] [] pos) ρ (.str (Txt.join s ts)) ρ2 :=
  pe_mono (pe_join ha hb hs hbase hline) fun σ H Q ⟨β, H0, V, k⟩ => ⟨β, H0, V, fun v H1 H1' e1 V1 d1 => by
    cases d1
    refine ⟨⟨s, rfl⟩, β, H1, V1, fun w H2 H2' e2 V2 d2 => ?_⟩
    cases d2 with
    | lst h r =>
      cases r.strs
      exact ⟨s, _, ts, rfl, rfl, .inl (.inl (.inl (V2.ex _ _ h))), hz, k _ H2 H2' (e1.trans e2) V2 (.str _)⟩⟩

/-! ### own protocols -/
/-- the class c has its own def for the name, it keeps sp -/
structure Ow (X : Cx) (C : Ct) (c : Nat) (name : Str) (k : Nat) (sp : Sp) : Prop where
  ex : ∃ g, PySem.W.findIn X.K (.ref (C.cls c)) name = some (some (.ref g)) ∧ PySem.W.isFn X.K (.ref g) = true ∧ FnR X.prog X.w X.K X.mg X.base CX0 k g sp
def rLenOwn (D : Addr) (sp : Sp) : List V → Hp → VK → Prop := fun xs H Q => ∃ a dx vs, xs = [V.ref a] ∧ SlX.Slt H a D dx vs ∧ sp [.ref a] H (fun z H' => ∃ i : Int, z = .int i ∧ 0 ≤ i ∧ i < 2 ^ 63 ∧ Q z H') E0
theorem call_lenOwn {D g : Addr} {n : Nat} {sp : Sp} (hs : PySem.W.findIn X.K (.ref D) "__len__" = some (some (.ref g))) (hf : PySem.W.isFn X.K (.ref g) = true) (F : FnR X.prog X.w X.K X.mg X.base CX0 n g sp) (hr : Room (n + 1) X.A) : CallR X (.builtin "len") (rLenOwn D sp) := by
  intro pins s σ H xs us Q I r h
  obtain ⟨a, dx, vs, rfl, hsl, q⟩ := h
  obtain ⟨u, rfl, ru⟩ := r.one
  cases (show u = Value.ref a from ru)
  obtain ⟨sl, od, _, J, _⟩ := SlX.slt_inst I hsl
  obtain ⟨m, hF⟩ := I.fr
  refine PySem.W.len_K hF I.ok.mod.kin J hs hf (wpAny_mono (wpAny_call (SlX.run_at (us := [.ref a]) (ws := [.ref a]) F hr.in1 I.env0.in1 pass0 I (.cons rfl .nil) q)) (fun w s' z => ?_) fun _ _ x => x)
  obtain ⟨z', H', I', rz, i, ei, h0, h1, qz⟩ := z
  subst ei
  obtain ⟨t, e⟩ := (show ∃ t, w = Value.int i t from rz)
  cases e
  exact ⟨⟨h0, h1⟩, .int i, H', I'.tok _, ⟨_, rfl⟩, qz⟩
/-- an instance's reading, as an argument -/
theorem den_ob {H0 H : Hp} {v : V} {c : Nat} {fs : List B} (d : Den C H0 v (.ob c fs)) (ex : Ex H0 H) : ∃ a dx vs, v = .ref a ∧ SlX.Slt H a (C.cls c) dx vs := by
  cases d with
  | ob h1 h2 r => exact ⟨_, _, _, rfl, .inr ⟨ex _ _ h1, ex _ _ h2⟩⟩
theorem e_lenOwn {c n : Nat} {i : Int} {fs : List B} {R : List B → B → Prop} (hm : X.mg "len" = none) (ha : EB C X a ρ (.ob c fs) ρ1) (D : Ow X C c "__len__" n (spR C R)) (hr : Room (n + 1) X.A) (hR : R [.ob c fs] (.int i)) (h0 : 0 ≤ i) (h1 : i < 2 ^ 63)
    (hg : Gl X "len" := by rfl) (hs : starEach [a] X.env = [(false, eval a X.env)] := by rfl) : EB C X (.Call (.Name "len" p) [a] [] pos) ρ (.int i) ρ1 := by
  obtain ⟨g, g1, g2, F⟩ := D.ex
  exact e_callB (call_lenOwn g1 g2 F hr) hm (by decide +kernel) (a_cons ha a_nil hs) (fun H0 H vs Q d ex q => by
    obtain ⟨v, rfl, dv⟩ := one_den d
    obtain ⟨b, dx, us, rfl, hsl⟩ := den_ob dv ex
    exact ⟨b, dx, us, rfl, hsl, H0, _, _, ex, d, hR, fun w H0' H' s dw => by
      cases dw
      exact ⟨i, rfl, h0, h1, q _ H0' H' s (.int i)⟩⟩) hg (by decide) (by decide) hs rfl
def rStrOwn (D : Addr) (sp : Sp) : List V → Hp → VK → Prop := fun xs H Q => ∃ a dx vs, xs = [V.ref a] ∧ SlX.Slt H a D dx vs ∧ sp [.ref a] H (fun z H' => ∃ i : Str, z = .str i ∧ Q z H') E0
theorem call_strOwn {D g : Addr} {n : Nat} {sp : Sp} (hs : PySem.W.findIn X.K (.ref D) "__str__" = some (some (.ref g))) (hf : PySem.W.isFn X.K (.ref g) = true) (F : FnR X.prog X.w X.K X.mg X.base CX0 n g sp) (hr : Room (n + 2) X.A) : CallR X (.type "str") (rStrOwn D sp) := by
  intro pins s σ H xs us Q I r h
  obtain ⟨a, dx, vs, rfl, hsl, q⟩ := h
  obtain ⟨u, rfl, ru⟩ := r.one
  cases (show u = Value.ref a from ru)
  obtain ⟨sl, od, _, J, _⟩ := SlX.slt_inst I hsl
  have hr2 : Room n X.A.in1.in1 := (show Room (n + 1) X.A.in1 from Room.in1 hr).in1
  refine PySem.W.kso_call hr2.units0 I.kIn J hs hf (wpAny_mono (wpAny_call (SlX.run_at (us := [.ref a]) (ws := [.ref a]) F hr2 I.env0.in1.in1 pass0 I (.cons rfl .nil) q)) (fun w s' z => ?_) fun _ _ x => x)
  obtain ⟨z', H', I', rz, i, ei, qz⟩ := z
  subst ei
  obtain ⟨t, e⟩ := (show ∃ t, w = Value.str i t from rz)
  cases e
  exact ⟨.str i, H', I', ⟨_, rfl⟩, qz⟩
theorem e_strOwn {c n : Nat} {i : Str} {fs : List B} {R : List B → B → Prop} (hm : X.mg "str" = none) (ha : EB C X a ρ (.ob c fs) ρ1) (D : Ow X C c "__str__" n (spR C R)) (hr : Room (n + 2) X.A) (hR : R [.ob c fs] (.str i))
    (hg : Gl X "str" := by rfl) (hs : starEach [a] X.env = [(false, eval a X.env)] := by rfl) : EB C X (.Call (.Name "str" p) [a] [] pos) ρ (.str i) ρ1 := by
  obtain ⟨g, g1, g2, F⟩ := D.ex
  exact e_callTy (call_strOwn g1 g2 F hr) hm (by decide +kernel) (a_cons ha a_nil hs) (fun H0 H vs Q d ex q => by
    obtain ⟨v, rfl, dv⟩ := one_den d
    obtain ⟨b, dx, us, rfl, hsl⟩ := den_ob dv ex
    exact ⟨b, dx, us, rfl, hsl, H0, _, _, ex, d, hR, fun w H0' H' s dw => by
      cases dw
      exact ⟨i, rfl, q _ H0' H' s (.str i)⟩⟩) hg (by decide) (by decide) hs rfl
/-- x in y, y an instance -/
def rInOwn (D : Addr) (sp : Sp) : R2 := fun x y H Q => ∃ a dx vs, y = V.ref a ∧ SlX.Slt H a D dx vs ∧ sp [y, x] H (fun z H' => ∃ b, z = .bl b ∧ Q z H') E0
theorem op_inOwn {D g : Addr} {n : Nat} {sp : Sp} (hs : PySem.W.findIn X.K (.ref D) "__contains__" = some (some (.ref g))) (hf : PySem.W.isFn X.K (.ref g) = true) (F : FnR X.prog X.w X.K X.mg X.base CX0 n g sp) (hr : Room n X.A) : OpR X (compareOp .In) (rInOwn D sp) := by
  intro pins s σ H x y v u Q I rx ry h
  obtain ⟨a, dx, vs, rfl, hsl, q⟩ := h
  cases (show u = Value.ref a from ry)
  obtain ⟨sl, od, _, J, _⟩ := SlX.slt_inst I hsl
  obtain ⟨m, hF⟩ := I.fr
  refine PySem.W.in_K hF I.ok.mod.kin J hs hf (wpAny_mono (wpAny_call (run_fnR (us := [.ref a, v]) (vs := [.ref a, x]) F hr pass0 I (.cons rfl (.cons rx .nil)) q)) (fun w s' z => ?_) fun _ _ x => x)
  obtain ⟨z', H', I', rz, b, ei, qz⟩ := z
  subst ei
  cases (show w = Value.bool b from rz)
  exact wpAny_truthy_bool ⟨.bl b, H', I', rfl, qz⟩
theorem o_inOwn {c n : Nat} {k : Bool} {fs : List B} {R : List B → B → Prop} (hR : R [.ob c fs, x] (.bl k)) : Op2 C (rInOwn (C.cls c) (spR C R)) x (.ob c fs) (.bl k) := fun H0 H v u Q d1 d2 ex q => by
  obtain ⟨b, dx, us, rfl, hsl⟩ := den_ob d2 ex
  exact ⟨b, dx, us, rfl, hsl, H0, _, _, ex, .cons d2 (.cons d1 .nil), hR, fun w H0' H' s dw => by
    cases dw
    exact ⟨k, rfl, q _ H0' H' s (.bl k)⟩⟩
theorem e_inOwn {c n : Nat} {k : Bool} {fs : List B} {R : List B → B → Prop} (ha : EB C X a ρ x ρ1) (hb : EB C X b ρ1 (.ob c fs) ρ2) (D : Ow X C c "__contains__" n (spR C R)) (hr : Room n X.A) (hR : R [.ob c fs, x] (.bl k)) (hm : behindInMarks .In b = false := by first | exact nomark _ | rfl) : EB C X (.Compare a [.In] [b] pos) ρ (.bl k) ρ2 := by
  obtain ⟨g, g1, g2, F⟩ := D.ex
  exact e_cmp (op_inOwn g1 g2 F hr) ha hb (o_inOwn (n := n) hR) hm
theorem c_inOwn {c n : Nat} {k : Bool} {fs : List B} {R : List B → B → Prop} (ha : EB C X a ρ x ρ1) (hb : EB C X b ρ1 (.ob c fs) ρ2) (D : Ow X C c "__contains__" n (spR C R)) (hr : Room n X.A) (hR : R [.ob c fs, x] (.bl k)) (hm : behindInMarks .In b = false := by first | exact nomark _ | rfl) : CB C X (.Compare a [.In] [b] pos) ρ k ρ2 := by
  obtain ⟨g, g1, g2, F⟩ := D.ex
  exact c_cmp (op_inOwn g1 g2 F hr) ha hb (o_inOwn (n := n) hR) hm

/-! ### == by an own __eq__, the other of any type -/
/-- the type of a thing, as it may be looked up -/
def TyL (X : Cx) (H : Hp) (y : V) (tb : Value) : Prop := ∀ (pins : List (Addr × Obj)) (σ : L2.St) (s : Shared) (u : Value), Inv X pins σ H s → RelV y u → PySem.W.Looks (model X.prog X.w) s.heap (typeOf u) tb
def rEqOwn (X : Cx) (D : Addr) (neg : Bool) (sp : Sp) : R2 := fun x y H Q => ∃ a dx vs tb, x = V.ref a ∧ SlX.Slt H a D dx vs ∧ TyL X H y tb ∧ PySem.W.notFirst X.K D tb = true ∧ sp [x, y] H (fun z H' => ∃ b, z = .bl b ∧ Q (.bl (if neg then !b else b)) H') E0
theorem op_eqOwn {D g : Addr} {n : Nat} {sp : Sp} (hs : PySem.W.findIn X.K (.ref D) "__eq__" = some (some (.ref g))) (hf : PySem.W.isFn X.K (.ref g) = true) (F : FnR X.prog X.w X.K X.mg X.base CX0 n g sp) (hr : Room n X.A) : OpR X (compareOp .Eq) (rEqOwn X D false sp) := by
  intro pins s σ H x y v u Q I rx ry h
  obtain ⟨a, dx, vs, tb, rfl, hsl, ht, hn, q⟩ := h
  cases (show v = Value.ref a from rx)
  obtain ⟨sl, od, _, J, _⟩ := SlX.slt_inst I hsl
  obtain ⟨m, hF⟩ := I.fr
  show wpAny _ _ (richCompare .Eq (.ref a) u) _ _ _
  refine PySem.W.cmp_K (op := .Eq) hr.units0 hF I.ok.mod.kin J (ht pins σ s u I ry) hn hs hf (wpAny_mono (wpAny_call (run_fnR (us := [.ref a, u]) (vs := [.ref a, y]) F hr pass0 I (.cons rfl (.cons ry .nil)) q)) (fun w s' z => ?_) fun _ _ x => x)
  obtain ⟨z', H', I', rz, b, ei, qz⟩ := z
  subst ei
  cases (show w = Value.bool b from rz)
  exact ⟨.bl b, H', I', rfl, qz⟩
end
end Q
end

/-! text LayM -/
section
set_option Elab.async false
set_option linter.all false
set_option maxRecDepth 100000
/-! == and != by an own __eq__; properties; classmethods -/
namespace Q
open PySem PySem.Spec PyProof.Rows L2
section
variable {prog : Program} {w : World} {A : Around} {E : Value → Shared → Prop} {s : Shared} {K : PySem.W.Frag} {x D L f : Addr} {h₀ : Heap} {m : Str → Option Value} {ox : Obj} {od : Option Obj} {b tb : Value}
/-- a comparison whose first try answers -/
theorem rich_one {op : CmpOp} {Q : Value → Shared → Prop} (hu : A.units < cLine) (X : K.In s.heap) (I : PySem.W.InstAt s.heap x ox D od) (hb : PySem.W.Looks (model prog w) s.heap (typeOf b) tb) (hn : PySem.W.notFirst K D tb = true)
    (one : wpAny (model prog w) A (tryCompare (.ref x) (cmpInfo op).2.1 b) (fun r s' => ∃ v, r = some v ∧ Q v s') E s) : wpAny (model prog w) A (richCompare op (.ref x) b) Q E s := by
  have fin : ∀ r s', (∃ v, r = some v ∧ Q v s') → ∃ v, r = some v ∧ Q v s' := fun _ _ z => z
  unfold richCompare
  simp only [oneThing_ref]
  refine wpAny_holding (wpAny_bind (wpAny_cRoomFor hu ?_))
  refine wpAny_bind (I.type.here (wpAny_bind (hb.here ?_)))
  by_cases q : (Value.ref D != tb) = true
  · rw [if_pos q]
    have ns : PySem.W.subIn K tb (.ref D) = some false := by
      rcases Bool.or_eq_true_iff.mp hn with t | t
      · rw [beq_iff_eq.mp t] at q
        simp at q
      · exact beq_iff_eq.mp t
    refine wpAny_bind ((PySem.W.looks_subIn X ns).here ?_)
    simp only [Bool.false_eq_true, if_false]
    refine wpAny_bind (wpAny_mono one (fun r s' z => ?_) fun _ _ z => z)
    obtain ⟨v, rfl, hq⟩ := z
    exact wpAny_pure hq
  · rw [if_neg q]
    refine wpAny_bind (wpAny_pure ?_)
    simp only [Bool.false_eq_true, if_false]
    refine wpAny_bind (wpAny_mono one (fun r s' z => ?_) fun _ _ z => z)
    obtain ⟨v, rfl, hq⟩ := z
    exact wpAny_pure hq
theorem bound_ne {args : List Value} {M : Model} {Q : Option Value → Shared → Prop} (X : K.In s.heap) (I : PySem.W.InstAt s.heap x ox D od) (hs : PySem.W.findIn K (.ref D) "__ne__" = some (some (.builtin "object.__ne__")))
    (h : wpAny M A (call (.builtin "object.__ne__") (.ref x :: args)) (fun v => Q (some v)) E s) : wpAny M A (callSpecialIfBound? (.ref x) "__ne__" args) Q E s := by
  simp only [callSpecialIfBound?, bindSpecialIfBound?]
  refine wpAny_holding (wpAny_bind (wpAny_bind (wpAny_bind (I.type.here ((PySem.W.looks_findIn X hs).here ?_)))))
  refine wpAny_bind (wpAny_askSetting (wpAny_ite ?_))
  have fin : wpAny M A (call (.builtin "object.__ne__") ([.ref x] ++ args) >>= fun v => pure (some v)) Q E s := wpAny_bind (wpAny_mono h (fun v s' z => wpAny_pure z) fun _ _ z => z)
  split
  · exact wpAny_bind (wpAny_of_eq (F.cmp_object.ne.bind _) (wpAny_pure (by exact fin)))
  · exact wpAny_tryCatch (wpAny_bind (wpAny_of_eq (F.cmp_object.ne.bind _) (wpAny_pure (by exact fin))))
theorem entry_ne {y : Value} {Q : Fin → Shared → Prop} (X : K.In s.heap) (I : PySem.W.InstAt s.heap x ox D od) (he : PySem.W.findIn K (.ref D) "__eq__" = some (some (.ref f))) (hf : PySem.W.isFn K (.ref f) = true) (hu : A.units < cLine)
    (hc : wpAny (model prog w) A (call (.ref f) [.ref x, y]) (fun v s' => ∃ b, v = .bool b ∧ Q (.done (.ret (.bool (!b)))) s') E s) : wpAny (model prog w) A (Builtin.«object.__ne__» ⟨[.ref x, y], []⟩) Q E s := by
  unfold Builtin.«object.__ne__»
  repeat (first
    | with_reducible refine wpAny_cRoomFor hu ?_
    | (refine wpAny_bind (m := callSpecialIfBound? (.ref x) (Str.ofString "__eq__") [y])
        (PySem.W.ifBound_K X I he hf (wpAny_mono hc (fun r s' hr => by
          obtain ⟨b, rfl, hq⟩ := hr
          repeat (first | exact hq | exact wpAny_pure hq | exact wpAny_truthy_bool hq | (refine wpAny_bind (m := truthy (.bool _)) (wpAny_truthy_bool ?_)) | wp_step)) fun _ _ z => z)))
    | wp_step)
theorem rich_ne {Q : Value → Shared → Prop} (hu : A.units + 1 < cLine) (X : K.In s.heap) (I : PySem.W.InstAt s.heap x ox D od) (hb : PySem.W.Looks (model prog w) s.heap (typeOf b) tb) (hn : PySem.W.notFirst K D tb = true)
    (hs : PySem.W.findIn K (.ref D) "__ne__" = some (some (.builtin "object.__ne__"))) (hm : PySem.W.mroIn K D (.type "object") = some true) (he : PySem.W.findIn K (.ref D) "__eq__" = some (some (.ref f))) (hf : PySem.W.isFn K (.ref f) = true)
    (hc : wpAny (model prog w) A.in1 (call (.ref f) [.ref x, b]) (fun v s' => ∃ b, v = .bool b ∧ Q (.bool (!b)) s') E s) : wpAny (model prog w) A (richCompare .NotEq (.ref x) b) Q E s := by
  refine rich_one (op := .NotEq) (Nat.lt_of_succ_lt hu) X I hb hn ?_
  unfold tryCompare
  refine wpAny_bind (bound_ne X I hs (wpAny_call (codeAny_call_builtin F.cmp_object.ne.plain F.cmpEntry_ne (PySem.W.check_slot F.cmpKind_ne F.cmpSplit_ne (I.type.andThen (PySem.W.looks_mroIn X hm)) (F.cmpArgs_ne _ _) (entry_ne (A := A.in1) X I he hf hu (wpAny_mono hc (fun v s' hv => ?_) fun _ _ z => z))))))
  obtain ⟨b, rfl, hq⟩ := hv
  first | exact ⟨b, rfl, wpAny_pure ⟨_, rfl, hq⟩⟩ | exact ⟨b, rfl, wpAny_pure (wpAny_pure ⟨_, rfl, hq⟩)⟩ | exact ⟨b, rfl, ⟨_, rfl, hq⟩⟩
end
section
variable {X : Cx} {C : Ct} {e a b c : Expr} {es : List Expr} {ρ ρ1 ρ2 ρ3 : List Sl} {x y z : B} {xs ys : List B} {pos p : Pos}
theorem op_neOwn {D g : Addr} {n : Nat} {sp : Sp} (hs : PySem.W.findIn X.K (.ref D) "__eq__" = some (some (.ref g))) (hf : PySem.W.isFn X.K (.ref g) = true) (hne : PySem.W.findIn X.K (.ref D) "__ne__" = some (some (.builtin "object.__ne__"))) (hm : PySem.W.mroIn X.K D (.type "object") = some true)
    (F : FnR X.prog X.w X.K X.mg X.base CX0 n g sp) (hr : Room (n + 1) X.A) : OpR X (compareOp .NotEq) (rEqOwn X D true sp) := by
  intro pins s σ H x y v u Q I rx ry h
  obtain ⟨a, dx, vs, tb, rfl, hsl, ht, hn, q⟩ := h
  cases (show v = Value.ref a from rx)
  obtain ⟨sl, od, _, J, _⟩ := SlX.slt_inst I hsl
  show wpAny _ _ (richCompare .NotEq (.ref a) u) _ _ _
  refine rich_ne (by have := hr.un; omega) I.kIn J (ht pins σ s u I ry) hn hne hm hs hf (wpAny_mono (wpAny_call (SlX.run_at (us := [.ref a, u]) (ws := [.ref a, y]) F hr.in1 I.env0.in1 pass0 I (.cons rfl (.cons ry .nil)) q)) (fun w s' z => ?_) fun _ _ x => x)
  obtain ⟨z', H', I', rz, b, ei, qz⟩ := z
  subst ei
  cases (show w = Value.bool b from rz)
  exact ⟨b, rfl, .bl (!b), H', I', rfl, qz⟩
theorem tyl_b {t : String} {H0 H : Hp} {v : V} (ex : Ex H0 H) (d : Den C H0 v x) (h : tyB x = some t) : TyL X H v (.type t) := fun pins σ s u I r => by
  obtain ⟨P, k, q, _⟩ := kit_of I r (tyx_of ex d h)
  exact k.ty _ _ I.kIn q
theorem tyl_ob {n : Nat} {fs : List B} {H0 H : Hp} {v : V} (ex : Ex H0 H) (d : Den C H0 v (.ob n fs)) : TyL X H v (.ref (C.cls n)) := fun pins σ s u I r => by
  obtain ⟨b, dx, us, rfl, hsl⟩ := den_ob d ex
  cases (show u = Value.ref b from r)
  obtain ⟨sl, od, _, J, _⟩ := SlX.slt_inst I hsl
  exact J.type
/-- what == may ask of the other's type -/
def tyOk (X : Cx) (C : Ct) (c : Nat) : B → Prop
  | .ob d _ => PySem.W.notFirst X.K (C.cls c) (.ref (C.cls d)) = true
  | x => ∃ t, tyB x = some t ∧ PySem.W.notFirst X.K (C.cls c) (.type t) = true
theorem o_eqOwn {n d : Nat} {k neg : Bool} {fs : List B} {R : List B → B → Prop} (ht : tyOk X C n y) (hR : R [.ob n fs, y] (.bl k)) : Op2 C (rEqOwn X (C.cls n) neg (spR C R)) (.ob n fs) y (.bl (if neg then !k else k)) := fun H0 H v u Q d1 d2 ex q => by
  obtain ⟨b, dx, us, rfl, hsl⟩ := den_ob d1 ex
  have fin : spR C R [.ref b, u] H (fun z H' => ∃ b, z = .bl b ∧ Q (.bl (if neg then !b else b)) H') E0 := ⟨H0, _, _, ex, .cons d1 (.cons d2 .nil), hR, fun w H0' H' s dw => by
    cases dw
    exact ⟨k, rfl, q _ H0' H' s (.bl _)⟩⟩
  cases y with
  | ob m gs => exact ⟨b, dx, us, _, rfl, hsl, tyl_ob ex d2, ht, fin⟩
  | _ =>
    obtain ⟨t, t1, t2⟩ := ht
    exact ⟨b, dx, us, _, rfl, hsl, tyl_b ex d2 t1, t2, fin⟩
/-- x == y, x an instance of an own class -/
theorem e_eqOwn {n m : Nat} {k : Bool} {fs : List B} {R : List B → B → Prop} (ha : EB C X a ρ (.ob n fs) ρ1) (hb : EB C X b ρ1 y ρ2) (D : Ow X C n "__eq__" m (spR C R)) (hr : Room m X.A) (ht : tyOk X C n y) (hR : R [.ob n fs, y] (.bl k)) (hm : behindInMarks .Eq b = false := by first | exact nomark _ | rfl) : EB C X (.Compare a [.Eq] [b] pos) ρ (.bl k) ρ2 := by
  obtain ⟨g, g1, g2, F⟩ := D.ex
  exact e_cmp (op_eqOwn g1 g2 F hr) ha hb (o_eqOwn (neg := false) (d := 0) ht hR) hm
theorem c_eqOwn {n m : Nat} {k : Bool} {fs : List B} {R : List B → B → Prop} (ha : EB C X a ρ (.ob n fs) ρ1) (hb : EB C X b ρ1 y ρ2) (D : Ow X C n "__eq__" m (spR C R)) (hr : Room m X.A) (ht : tyOk X C n y) (hR : R [.ob n fs, y] (.bl k)) (hm : behindInMarks .Eq b = false := by first | exact nomark _ | rfl) : CB C X (.Compare a [.Eq] [b] pos) ρ k ρ2 := by
  obtain ⟨g, g1, g2, F⟩ := D.ex
  exact c_cmp (op_eqOwn g1 g2 F hr) ha hb (o_eqOwn (neg := false) (d := 0) ht hR) hm
theorem c_neOwn {n m : Nat} {k : Bool} {fs : List B} {R : List B → B → Prop} (ha : EB C X a ρ (.ob n fs) ρ1) (hb : EB C X b ρ1 y ρ2) (D : Ow X C n "__eq__" m (spR C R)) (hne : PySem.W.findIn X.K (.ref (C.cls n)) "__ne__" = some (some (.builtin "object.__ne__"))) (hmr : PySem.W.mroIn X.K (C.cls n) (.type "object") = some true)
    (hr : Room (m + 1) X.A) (ht : tyOk X C n y) (hR : R [.ob n fs, y] (.bl k)) (hm : behindInMarks .NotEq b = false := by first | exact nomark _ | rfl) : CB C X (.Compare a [.NotEq] [b] pos) ρ (!k) ρ2 := by
  obtain ⟨g, g1, g2, F⟩ := D.ex
  exact c_cmp (op_neOwn g1 g2 hne hmr F hr) ha hb (o_eqOwn (neg := true) (d := 0) ht hR) hm

/-! ### properties, classmethods -/
/-- the class c has the property f -/
structure Pr (X : Cx) (C : Ct) (c : Nat) (f : Str) (k : Nat) (sp : Sp) : Prop where
  cl : SlX.SCls X.K (C.cls c)
  ex : ∃ p g, PySem.W.findIn X.K (.ref (C.cls c)) f = some (some (.ref p)) ∧ PySem.W.specialIn X.K (.ref p) "__get__" = some (some (.builtin "property.__get__")) ∧ PySem.W.takesIn X.K (.ref p) = some true ∧
    (∃ rest, PySem.W.recIn X.K p "property" = some (.ref g :: rest)) ∧ FnR X.prog X.w X.K X.mg X.base CX0 k g sp
theorem e_prop {f : Str} {c n : Nat} {fs : List B} {R : List B → B → Prop} (D : Pr X C c f n (spR C R)) (he : EB C X e ρ (.ob c fs) ρ1) (hr : Room (n + 1) X.A) (hR : R [.ob c fs] x) (hb : attributeBase e f X.env (eval e X.env) = eval e X.env := by rfl) : EB C X (.Attribute e f pos) ρ x ρ1 := by
  obtain ⟨p, g, h1, h2, h3, h4, F⟩ := D.ex
  exact pe_mono (SlX.pe_propSl (E := E0) he D.cl h1 h2 h3 h4 F hr (fun H s e s' z => by exact z.elim) hb) fun σ H Q ⟨β, H0, V, k⟩ => ⟨β, H0, V, fun v H1 H1' e1 V1 d1 => by
    obtain ⟨b, dx, us, rfl, hsl⟩ := den_ob d1 V1.ex
    exact ⟨b, dx, us, rfl, hsl, H1, _, _, V1.ex, .cons d1 .nil, hR, fun w H2 H2' s dw => k w H2 H2' (e1.trans s.e0) (V1.stp s) dw⟩⟩
end
end Q
end

/-! text LayN -/
section
set_option Elab.async false
set_option linter.all false
set_option maxRecDepth 100000
/-! defs that change a list (the dice), defs that answer a new list, classmethods -/
namespace Q
open PySem PySem.Spec PyProof.Rows L2
section
variable {X : Cx} {C : Ct} {e a b c : Expr} {es : List Expr} {ρ ρ1 ρ2 ρ3 : List Sl} {x y z : B} {xs ys ds ds' : List B} {pos p : Pos} {rest : List Stmt} {post : Out → Prop}
/-- a def that answers a new list -/
def spF (C : Ct) (R : List B → List B → Prop) : Sp := fun vs H Q _ => ∃ H0 bs r, Ex H0 H ∧ DenAll C H0 vs bs ∧ R bs r ∧ ∀ p H0' H', Stp H0 H H0' H' → H0' p = none → OwnAt C H0' H' p (.lst r) → H p = none → Q (.ref p) H'
theorem f_call {n : Str} {p : Pos} {k : Nat} {R : List B → List B → Prop} (D : Dn X.prog X.w X.K X.mg X.base n k (spF C R)) (hr : Room k X.A) (ha : AB C X (e :: es) ρ ys ρ1) (hR : R ys xs) (hg : Gl X n := by rfl) (hdb : (n == ("__debug__" : Str)) = false := by decide)
    (he : starEach (e :: es) X.env = (false, eval e X.env) :: starEach es X.env := by rfl) (hpl : (backTo pos (starEach es X.env)).any (·.1) = false := by rfl) : FB C X (.Call (.Name n p) (e :: es) [] pos) ρ (.lst xs) ρ1 := by
  obtain ⟨f, hm, hk, F⟩ := D.ex
  refine ⟨fun pins s σ H Q I h => ?_⟩
  refine wpAny_Call_Name_kw (ld_glob I hg hm ?_ hdb)
  obtain ⟨β, H0, V, q⟩ := h
  refine PySem.W.callWith_K (h₀ := X.base) I.ok.mod.kin hk (thn (ha.run pos pins s σ H (fun vs H1 => spF C R vs H1 Q E0) I ⟨β, H0, V, fun vs H1 H1' e1 V1 d1 => ?_⟩) fun us s1 ⟨vs, H1, I1, r, q⟩ => ⟨I1.kIn, ?_⟩) he hpl
  · refine ⟨H1, ys, xs, V1.ex, d1, hR, fun p H2 H2' s g1 g2 g3 => ?_⟩
    obtain ⟨_, t2, t3⟩ := V1.fresh g3
    exact q p H2 H2' (e1.trans s.e0) (V1.stp s) g1 g2 t2 t3
  · exact wpAny_call (run_fnR F hr pass0 I1 r q)
/-- a def that changes the list it is given first -/
def spD (C : Ct) (R : List B → List B → B → List B → Prop) : Sp := fun vs H Q _ => ∃ H0 p vs' ds bs r ds', vs = .ref p :: vs' ∧ Ex H0 H ∧ H0 p = none ∧ OwnAt C H0 H p (.lst ds) ∧ DenAll C H0 vs' bs ∧ R ds bs r ds' ∧
  ∀ v H0' H', Ex H0 H0' → Ex H0' H' → (∀ a, a ≠ p → H a ≠ none → H0 a = none → H0' a = none ∧ H' a = H a) → H0' p = none → OwnAt C H0' H' p (.lst ds') → Den C H0' v r → Q v H'
/-- an owned list is changed elsewhere -/
theorem Sat.chg {β : Bs} {σ : L2.St} {H0 H H0' H' : Hp} {i : Nat} {p : Addr} (V : Sat C β σ H0 H ρ) (h : ρ[i]? = some (.ow (.lst ds))) (hp : σ[i]? = some (some (.ref p))) (e0 : Ex H0 H0') (e1 : Ex H0' H') (out : ∀ a, a ≠ p → H a ≠ none → H0 a = none → H0' a = none ∧ H' a = H a)
    (hp0 : H0' p = none) (n : OwnAt C H0' H' p (.lst ds')) : Sat C β σ H0' H' (ρ.set i (.ow (.lst ds'))) := by
  obtain ⟨q, h1, h2, ⟨vs, h3, d⟩, h4⟩ := V.ow i _ h
  rw [hp] at h1
  cases h1
  have st : Stp H0 H H0' (upd H' p (.lst vs)) := by
    refine ⟨e0, fun a o e => ?_, fun a g1 g2 => ?_⟩
    · rw [upd_ne (fun z => by rw [z, hp0] at e; cases e)]
      exact e1 a o e
    · by_cases ha : a = p
      · rw [ha]
        exact ⟨hp0, by rw [upd_same, h3]⟩
      · rw [upd_ne ha]
        exact out a ha g1 g2
  have V1 := V.stp st
  obtain ⟨ws, n1, n2⟩ := n
  have V2 := V1.write (b' := .lst ds') (o := .lst ws) h hp ⟨ws, upd_same, n2⟩ upd_same trivial (fun z => z)
  have e : upd (upd H' p (.lst vs)) p (.lst ws) = H' := by
    funext a
    by_cases ha : a = p
    · rw [ha, upd_same, n1]
    · rw [upd_ne ha, upd_ne ha]
  rw [e] at V2
  exact V2
theorem e_callD (i : Nat) {n m : Str} {p p' : Pos} {k : Nat} {R : List B → List B → B → List B → Prop} (D : Dn X.prog X.w X.K X.mg X.base n k (spD C R)) (hr : Room k X.A) (ha : AB C X es ρ ys ρ) (hR : R ds ys z ds') (hρ : ρ[i]? = some (.ow (.lst ds)) := by rfl) (hN : X.N[i]? = some m := by rfl)
    (hv : Vis X.env.scope m := by first | exact Or.inl rfl | exact Or.inr (Or.inl rfl) | exact Or.inr (Or.inr rfl)) (hd : (m == ("__debug__" : Str)) = false := by decide) (hcd : (m == ("__classdict__" : Str)) = false := by decide)
    (hg : Gl X n := by rfl) (hdb : (n == ("__debug__" : Str)) = false := by decide)
    (he : starEach (.Name m p' :: es) X.env = (false, eval (.Name m p') X.env) :: starEach es X.env := by rfl) (hpl : (backTo pos (starEach es X.env)).any (·.1) = false := by rfl) : EB C X (.Call (.Name n p) (.Name m p' :: es) [] pos) ρ z (ρ.set i (.ow (.lst ds'))) := by
  obtain ⟨f, hm, hk, F⟩ := D.ex
  refine ⟨fun pins s σ H Q I h => ?_⟩
  refine wpAny_Call_Name_kw (ld_glob I hg hm ?_ hdb)
  obtain ⟨β, H0, V, q⟩ := h
  have hra := L2.pa_cons (pe_var (pos := p') hN hv hd hcd) ha he
  refine PySem.W.callWith_K (h₀ := X.base) I.ok.mod.kin hk (thn (hra.run pos pins s σ H (fun vs H1 => spD C R vs H1 Q E0) I ?_) fun us s1 ⟨vs, H1, I1, r, q⟩ => ⟨I1.kIn, ?_⟩) he hpl
  · obtain ⟨q0, h1, h2, h3, h4⟩ := V.ow i _ hρ
    refine ⟨_, h1, β, H0, V, fun vs H1 H1' e1 V1 d1 => ?_⟩
    obtain ⟨q1, g1, g2, g3, g4⟩ := V1.ow i _ hρ
    rw [h1] at g1
    cases g1
    exact ⟨H1, q0, vs, ds, ys, z, ds', rfl, V1.ex, g2, g3, d1, hR, fun v H2 H2' e2 e3 out p0 n dz => q v H2 H2' (e1.trans e2) (V1.chg hρ h1 e2 e3 out p0 n) dz⟩
  · exact wpAny_call (run_fnR F hr pass0 I1 r q)
/-- a classmethod of the class c -/
structure Cm (X : Cx) (C : Ct) (c : Nat) (m : Str) (k : Nat) (sp : Sp) : Prop where
  ex : ∃ mc p g, ClX.CRead X.K (C.cls c) mc ∧ ClX.CMet X.K (C.cls c) mc m p g ∧ FnR X.prog X.w X.K X.mg X.base CX0 k g sp
end
section
variable {P : Program} {w : World} {K : PySem.W.Frag} {mg : Str → Option Value} {base : Heap} {C : Ct}
def endF (r : List B) : Out → Prop
  | .rf b _ => b = r
  | _ => False
theorem defF_ok {x qual : Str} {st : Stmt} {f : Addr} {fd : FuncData} {N ps : List Str} {k : Nat} {R : List B → List B → Prop} (F : Fun K x qual st f fd) (S : FnScope N ps (defScope st)) (hb : Binds K fd ps []) (len : ∀ bs r, R bs r → bs.length = ps.length)
    (hbody : ∀ (cdv : Value) (A : Around) (outer : List PySem.Env) (s : Shared) (H : Hp) (E : XK) (bs : List B) (r : List B), Room k (A.deeper (envOfC qual (defScope st) s.heap.objs.size f cdv)) → R bs r →
      SB C (cxOf CX0 P w K mg base N qual (defScope st) f cdv A outer s H E).nox (defBody st) (slots N.length bs) (endF r)) : FnR P w K mg base CX0 (k + 1) f (spF C R) := by
  have hpl : ps.length ≤ N.length := by have := congrArg List.length S.pre; rw [List.length_take] at this; omega
  have G : FnOk P w K mg base CX0 (k + 1) f fd ps (spF C R) := by
    refine F.ok S (fun vs H Q E h => ?_) (fun cdv A outer s H vs Q E hr h => ?_)
    · obtain ⟨H0, bs, r, _, d, hR, _⟩ := h
      rw [d.len]
      exact len bs r hR
    · obtain ⟨H0, bs, r, e, d, hR, q⟩ := h
      refine ⟨_, hbody cdv A outer s H E bs r hr hR, ⟨H0, H, fun _ => False, []⟩, H0, sat_start e d (by rw [len bs r hR]; exact hpl), ?_, ?_, ?_, ?_, ?_⟩
      · intro ρ' p
        exact p.elim
      · intro b ρ' p
        exact p.elim
      · intro ρ' p
        exact p.elim
      · intro ρ' p
        exact p.elim
      · intro bs ρ' pe p σ' G G' g W f1 f2 f3
        have er : bs = r := pe
        subst er
        exact q p G G' ⟨g, W.ex, fun a h1 h2 => W.out a h1 h2 (fun z => z)⟩ f1 f2 f3
  have z := G.raw hb .nil
  simp only [List.append_nil] at z
  exact z
/-- the end of a def that changes its first list -/
def endD (r : B) (ds' : List B) : Out → Prop
  | .rt b ρ => b = r ∧ ρ[0]? = some (.ow (.lst ds'))
  | .nx ρ => r = .non ∧ ρ[0]? = some (.ow (.lst ds'))
  | _ => False
def slotsD (n : Nat) (ds bs : List B) : List Sl := .ow (.lst ds) :: (bs.map Sl.va ++ List.replicate (n - (bs.length + 1)) .un)
theorem sat_startD {N : List Str} {vs : List V} {ds bs : List B} {H0 H : Hp} {p : Addr} (e : Ex H0 H) (d : DenAll C H0 vs bs) (hp : H0 p = none) (o : OwnAt C H0 H p (.lst ds)) : Sat C ⟨H0, H, fun a => a = p, []⟩ (L2.start N (.ref p :: vs)) H0 H (slotsD N.length ds bs) where
  tb := ⟨fun q hq => absurd hq (by simp), fun q hq => absurd hq (by simp)⟩
  tk := fun i T h => by
    cases i with
    | zero => cases Option.some.inj h
    | succ i =>
      have h' : (bs.map Sl.va ++ List.replicate (N.length - (bs.length + 1)) Sl.un)[i]? = some (.tk T) := h
      by_cases hi : i < bs.length
      · rw [List.getElem?_append_left (by simpa using hi), List.getElem?_map] at h'
        cases e : bs[i]? with
        | none => rw [e] at h'; cases h'
        | some c => rw [e] at h'; cases h'
      · rw [List.getElem?_append_right (by simpa using hi), List.getElem?_replicate] at h'
        split at h' <;> cases h'
  exb := Evl.Ex.refl _
  ex := e
  out := fun a _ h _ => ⟨h, rfl⟩
  bo := fun a h => by
    subst h
    exact ⟨o.there, hp⟩
  bE := fun a h => by
    subst h
    exact o.there
  len := by unfold L2.start slotsD; simp [d.len]
  va := fun i b h => by
    cases i with
    | zero => cases Option.some.inj h
    | succ i =>
      have h' : (bs.map Sl.va ++ List.replicate (N.length - (bs.length + 1)) Sl.un)[i]? = some (.va b) := h
      unfold L2.start
      by_cases hi : i < bs.length
      · rw [List.getElem?_append_left (by simpa using hi), List.getElem?_map] at h'
        cases e : bs[i]? with
        | none => rw [e] at h'; cases h'
        | some c =>
          rw [e] at h'
          cases Option.some.inj h'
          obtain ⟨v, h1, h2⟩ := d.get e
          refine ⟨v, ?_, h2⟩
          rw [List.getElem?_append_left (by rw [List.length_map, List.length_cons, d.len]; omega), List.getElem?_map, List.getElem?_cons_succ, h1]
          rfl
      · rw [List.getElem?_append_right (by simpa using hi), List.getElem?_replicate] at h'
        split at h' <;> cases h'
  ow := fun i b h => by
    cases i with
    | zero =>
      cases Option.some.inj h
      exact ⟨p, rfl, hp, o, .inr ⟨rfl, rfl⟩⟩
    | succ i =>
      have h' : (bs.map Sl.va ++ List.replicate (N.length - (bs.length + 1)) Sl.un)[i]? = some (.ow b) := h
      by_cases hi : i < bs.length
      · rw [List.getElem?_append_left (by simpa using hi), List.getElem?_map] at h'
        cases e : bs[i]? with
        | none => rw [e] at h'; cases h'
        | some c => rw [e] at h'; cases h'
      · rw [List.getElem?_append_right (by simpa using hi), List.getElem?_replicate] at h'
        split at h' <;> cases h'
  sep := fun i j bi bj q h1 h2 _ _ => by
    have g : ∀ (i : Nat) (b : OB), (slotsD N.length ds bs)[i]? = some (.ow b) → i = 0 := fun i b h => by
      cases i with
      | zero => rfl
      | succ i =>
        have h' : (bs.map Sl.va ++ List.replicate (N.length - (bs.length + 1)) Sl.un)[i]? = some (.ow b) := h
        by_cases hi : i < bs.length
        · rw [List.getElem?_append_left (by simpa using hi), List.getElem?_map] at h'
          cases e : bs[i]? with
          | none => rw [e] at h'; cases h'
          | some c => rw [e] at h'; cases h'
        · rw [List.getElem?_append_right (by simpa using hi), List.getElem?_replicate] at h'
          split at h' <;> cases h'
    rw [g i bi h1, g j bj h2]
theorem sat_endD {σ : L2.St} {H0 H G G' : Hp} {p : Addr} {ρ : List Sl} {ds' : List B} (W : Sat C ⟨H0, H, fun a => a = p, []⟩ σ G G' ρ) (h : ρ[0]? = some (.ow (.lst ds'))) (hE : H p ≠ none) : (∀ a, a ≠ p → H a ≠ none → H0 a = none → G a = none ∧ G' a = H a) ∧ G p = none ∧ OwnAt C G G' p (.lst ds') := by
  obtain ⟨q, h1, h2, h3, h4⟩ := W.ow 0 _ h
  have eq : q = p := h4.elim (fun z => absurd rfl z.2) fun z => z.2
  subst eq
  exact ⟨fun a n g1 g2 => W.out a g1 g2 n, (W.bo q rfl).2, h3⟩
theorem defD_ok {x qual pn : Str} {st : Stmt} {f : Addr} {fd : FuncData} {N ps : List Str} {k : Nat} {R : List B → List B → B → List B → Prop} (F : Fun K x qual st f fd) (S : FnScope N (pn :: ps) (defScope st)) (hb : Binds K fd (pn :: ps) []) (len : ∀ ds bs r ds', R ds bs r ds' → bs.length = ps.length)
    (hbody : ∀ (cdv : Value) (A : Around) (outer : List PySem.Env) (s : Shared) (H : Hp) (E : XK) (ds bs : List B) (r : B) (ds' : List B), Room k (A.deeper (envOfC qual (defScope st) s.heap.objs.size f cdv)) → R ds bs r ds' →
      SB C (cxOf CX0 P w K mg base N qual (defScope st) f cdv A outer s H E).nox (defBody st) (slotsD N.length ds bs) (endD r ds')) : FnR P w K mg base CX0 (k + 1) f (spD C R) := by
  have G : FnOk P w K mg base CX0 (k + 1) f fd (pn :: ps) (spD C R) := by
    refine F.ok S (fun vs H Q E h => ?_) (fun cdv A outer s H vs Q E hr h => ?_)
    · obtain ⟨H0, p, vs', ds, bs, r, ds', rfl, _, _, _, d, hR, _⟩ := h
      rw [List.length_cons, List.length_cons, d.len, len ds bs r ds' hR]
    · obtain ⟨H0, p, vs', ds, bs, r, ds', rfl, e, hp, o, d, hR, q⟩ := h
      refine ⟨_, hbody cdv A outer s H E ds bs r ds' hr hR, _, H0, sat_startD e d hp o, ?_, ?_, ?_, ?_, ?_⟩
      · intro ρ' pe σ' G G' g W
        obtain ⟨rfl, h0⟩ := pe
        obtain ⟨z1, z2, z3⟩ := sat_endD W h0 o.there
        exact q .non G G' g W.ex z1 z2 z3 .non
      · intro b ρ' pe v σ' G G' g W dv
        obtain ⟨rfl, h0⟩ := pe
        obtain ⟨z1, z2, z3⟩ := sat_endD W h0 o.there
        exact q v G G' g W.ex z1 z2 z3 dv
      · intro ρ' p
        exact p.elim
      · intro ρ' p
        exact p.elim
      · intro bs ρ' p
        exact p.elim
  have z := G.raw hb .nil
  simp only [List.append_nil] at z
  exact z
section
variable {X : Cx} {e a b c : Expr} {es : List Expr} {ρ ρ1 ρ2 ρ3 : List Sl} {z : B} {bs : List B} {pos : Pos}
theorem e_cmeth {o : Expr} {m : Str} {ap : Pos} {k c : Nat} {R : List B → B → Prop} {pl : Sem Bool} (ho : EB C X o ρ (.cl c) ρ1) (D : Cm X C c m k (spR C R)) (hr : Room k X.A) (ha : AB C X (e :: es) ρ1 bs ρ2) (hR : R (.cl c :: bs) z)
    (hst : starEach (e :: es) X.env = (false, eval e X.env) :: starEach es X.env := by rfl) (hpl : (backTo pos (starEach es X.env)).any (·.1) = false := by rfl)
    (ht : eval (.Call (.Attribute o m ap) (e :: es) [] pos) X.env = (do
      let ov ← eval o X.env
      standAt ap.atName
      let (f, first) ← holding [ov] (getMethod ov m pl)
      callWith pos f first (backTo pos (starEach (e :: es) X.env)) (backToKw pos (keywordEach [] X.env))) := by rfl) : EB C X (.Call (.Attribute o m ap) (e :: es) [] pos) ρ z ρ2 := by
  obtain ⟨mc, p, g, h1, h2, F⟩ := D.ex
  exact pe_mono (ClX.pe_cmeth (E := E0) ho h1 h2 F hr pass0 ha hst hpl ht) fun σ H Q ⟨β, H0, V, q⟩ => ⟨β, H0, V, fun v H1 H1' e1 V1 d1 => by
    cases d1
    exact ⟨rfl, β, H1, V1, fun vs H2 H2' e2 V2 d2 => m_sp hR V2 (.cons (.cl c) d2) fun v H3 H3' e3 V3 d3 => q v H3 H3' ((e1.trans e2).trans e3) V3 d3⟩⟩
end
end
end Q
end

/-! text LayO -/
section
set_option Elab.async false
set_option linter.all false
set_option maxRecDepth 100000
/-! an instance under construction, read inside a comprehension; loops over folds -/
namespace Q
open PySem PySem.Spec PyProof.Rows L2
mutual
def noOb : B → Bool
  | .tup xs => noObs xs
  | .lst xs => noObs xs
  | .dic _ xs => noObs xs
  | .ob _ _ => false
  | .pob _ _ _ => false
  | .non => true
  | .bl _ => true
  | .int _ => true
  | .str _ => true
  | .rng _ _ => true
  | .scr _ => true
  | .ty _ => true
  | .cl _ => true
def noObs : List B → Bool
  | [] => true
  | x :: xs => noOb x && noObs xs
end
theorem noObs_int (ns : List Int) : noObs (ns.map B.int) = true := by
  induction ns with
  | nil => rw [List.map_nil, noObs]
  | cons n r ih => rw [List.map_cons, noObs, noOb, ih]; rfl
section
variable {C : Ct} {H H' : Hp} {p dx : Addr}
/-- two places are forgotten -/
structure Fgt (H H' : Hp) (p dx : Addr) : Prop where
  same : ∀ a, a ≠ p → a ≠ dx → H' a = H a
  sp : ∀ o, H p = some o → ∃ φ, o = .ext φ
  sd : ∀ o, H dx = some o → o = .xd []
theorem Fgt.keep (f : Fgt H H' p dx) {a : Addr} {o : HO} (h : H a = some o) (h1 : ∀ φ, o ≠ .ext φ) (h2 : o ≠ .xd []) : H' a = some o := by
  rw [f.same a (fun z => ?_) (fun z => ?_)]
  · exact h
  · obtain ⟨φ, e⟩ := f.sp o (by rw [← z]; exact h)
    exact h1 φ e
  · exact h2 (f.sd o (by rw [← z]; exact h))
mutual
theorem Den.forget (f : Fgt H H' p dx) : ∀ {v : V} {b : B}, Den C H v b → noOb b = true → Den C H' v b
  | _, _, .non, _ => .non
  | _, _, .bl b, _ => .bl b
  | _, _, .int i, _ => .int i
  | _, _, .str x, _ => .str x
  | _, _, .tup h r, n => by
    rw [noOb] at n
    exact .tup (f.keep h (fun _ z => nomatch z) (fun z => nomatch z)) (DenAll.forget f r n)
  | _, _, .lst h r, n => by
    rw [noOb] at n
    exact .lst (f.keep h (fun _ z => nomatch z) (fun z => nomatch z)) (DenAll.forget f r n)
  | _, _, .ob _ _ _, n => by rw [noOb] at n; cases n
  | _, _, .pob _ _ _ _, n => by rw [noOb] at n; cases n
  | _, _, .rng h, _ => .rng (f.keep h (fun _ z => nomatch z) (fun z => nomatch z))
  | _, _, .scr h, _ => .scr (by
    rcases h with (h | ⟨o, h⟩) | h
    · exact .inl (.inl (f.keep h (fun _ z => nomatch z) (fun z => nomatch z)))
    · exact .inl (.inr ⟨o, f.keep h (fun _ z => nomatch z) (fun z => nomatch z)⟩)
    · exact .inr h)
  | _, _, .dic h k r, n => by
    rw [noOb] at n
    exact .dic (f.keep h (fun _ z => nomatch z) (fun z => nomatch z)) k (DenAll.forget f r n)
  | _, _, .ty n, _ => .ty n
  | _, _, .cl c, _ => .cl c
theorem DenAll.forget (f : Fgt H H' p dx) : ∀ {vs : List V} {bs : List B}, DenAll C H vs bs → noObs bs = true → DenAll C H' vs bs
  | _, _, .nil, _ => .nil
  | _, _, .cons h r, n => by
    rw [noObs, Bool.and_eq_true] at n
    exact .cons (Den.forget f h n.1) (DenAll.forget f r n.2)
end
end
section
variable {X : Cx} {C : Ct} {e a b c : Expr} {es : List Expr} {ρ ρ1 ρ2 ρ3 : List Sl} {x y z : B} {xs ys bs : List B} {pos : Pos}
/-- a slot read of such an instance -/
theorem e_atP {f : Str} {c j : Nat} (T : Sf X.K C c f j) (he : EB C X e ρ (.pob c j x) ρ1) (hb : attributeBase e f X.env (eval e X.env) = eval e X.env := by rfl) : EB C X (.Attribute e f pos) ρ x ρ1 :=
  pe_mono (SlX.pe_sl he hb) fun σ H Q ⟨β, H0, V, k⟩ => ⟨β, H0, V, fun v H1 H1' e1 V1 d1 => by
    cases d1 with
    | @pob a dx c j us v x h1 h2 hu r =>
      obtain ⟨p, hp⟩ := T.at_
      exact ⟨a, _, dx, p, us, j, v, rfl, .inr ⟨V1.ex _ _ h1, V1.ex _ _ h2⟩, T.cl, hp, hu, k v H1 H1' e1 V1 r⟩⟩
/-- a new list is made while the instance in slot 0 is read -/
theorem peek_read {c j : Nat} {dx : Addr} {vs : List (Option B)} (hno : noOw (ρ.set 0 (.va (.pob c j x)))) (hbs : noObs bs = true) (hx : vs[j]? = some (some x)) (hρ : ρ[0]? = some (.ow (.ins c dx vs))) : ∀ σ H Q, fOf C ρ (.lst bs) ρ σ H Q → fOf C (ρ.set 0 (.va (.pob c j x))) (.lst bs) ρ1 σ H Q :=
  fun σ H Q ⟨β, H0, V, k⟩ => by
    obtain ⟨p, h1, h2, ⟨us, n, hd, hh, d⟩, hi0, hbp, hbd, hEd, hT⟩ := V.ow 0 _ hρ
    obtain ⟨w, w1, w2⟩ := d.get hx
    have hh2 : H p = some (SlX.SlO p (C.cls c) dx us) ∧ H dx = some (.xd []) := by
      rcases hh with ⟨_, g, _⟩ | g
      · rw [g] at w1
        cases w1
      · exact g
    let H1 : Hp := upd (upd H0 dx (.xd [])) p (SlX.SlO p (C.cls c) dx us)
    have e01 : Ex H0 H1 := fun a o q => by
      show upd _ _ _ a = _
      rw [upd_ne (fun z => by rw [z, h2] at q; cases q), upd_ne (fun z => by rw [z, hd] at q; cases q)]
      exact q
    have e1H : Ex H1 H := fun a o q => by
      have q' : upd (upd H0 dx (.xd [])) p (SlX.SlO p (C.cls c) dx us) a = some o := q
      by_cases ha : a = p
      · rw [ha, upd_same] at q'
        rw [ha, hh2.1]
        exact q'
      · rw [upd_ne ha] at q'
        by_cases hb : a = dx
        · rw [hb, upd_same] at q'
          rw [hb, hh2.2]
          exact q'
        · rw [upd_ne hb] at q'
          exact V.ex a o q'
    have hl : 0 < ρ.length := (List.getElem?_eq_some_iff.mp hρ).1
    have W : Sat C ⟨H1, H, fun _ => False, []⟩ σ H1 H (ρ.set 0 (.va (.pob c j x))) := by
      refine ⟨Evl.Ex.refl _, e1H, fun a _ q _ => ⟨q, rfl⟩, fun a q => q.elim, fun a q => q.elim, by rw [List.length_set]; exact V.len, fun i b q => ?_, fun i o q => (no_ow hno q).elim, fun i _ bi _ _ q => (no_ow hno q).elim, ⟨fun q hq => absurd hq (by simp), fun q hq => absurd hq (by simp)⟩, fun j T h => hT.symm.trans (V.tk j T (set_tk h (fun _ z => nomatch z)))⟩
      by_cases hi : 0 = i
      · subst hi
        rw [List.getElem?_set_self hl] at q
        cases q
        exact ⟨.ref p, h1, .pob upd_same (by show upd _ _ _ dx = _; rw [upd_ne n, upd_same]) w1 (w2.mono e01)⟩
      · rw [List.getElem?_set_ne hi] at q
        obtain ⟨v, g1, g2⟩ := V.va i b q
        exact ⟨v, g1, g2.mono e01⟩
    refine ⟨_, _, W, fun r H2 H2' e12 V2 f1 f2 f3 f4 => ?_⟩
    -- the two places are taken out again
    let H3 : Hp := fun a => if a = p ∨ a = dx then none else H2 a
    have fg : Fgt H2 H3 p dx := ⟨fun a n1 n2 => if_neg (fun z => z.elim n1 n2), fun o q => by
        have := e12 p _ (show H1 p = some (SlX.SlO p (C.cls c) dx us) from upd_same)
        rw [q] at this
        exact ⟨_, Option.some.inj this⟩, fun o q => by
        have := e12 dx _ (show H1 dx = some (.xd []) from by show upd _ _ _ dx = _; rw [upd_ne n, upd_same])
        rw [q] at this
        exact Option.some.inj this⟩
    have e03 : Ex H0 H3 := fun a o q => by
      have na : ¬(a = p ∨ a = dx) := fun z => by
        rcases z with z | z
        · rw [z, h2] at q; cases q
        · rw [z, hd] at q; cases q
      show (if _ then _ else _) = _
      rw [if_neg na]
      exact e12 a o (e01 a o q)
    have st : Stp H0 H H3 H2' := by
      refine ⟨e03, fun a o q => ?_, fun a g1 g2 => ?_⟩
      · by_cases na : a = p ∨ a = dx
        · have z : H3 a = none := if_pos na
          rw [z] at q
          cases q
        · have z : H3 a = H2 a := if_neg na
          rw [z] at q
          exact V2.ex a o q
      · by_cases na : a = p ∨ a = dx
        · refine ⟨if_pos na, ?_⟩
          rcases na with z | z
          · rw [z, hh2.1]
            exact V2.ex _ _ (e12 _ _ (show H1 p = _ from upd_same))
          · rw [z, hh2.2]
            exact V2.ex _ _ (e12 _ _ (show H1 dx = some (.xd []) from by show upd _ _ _ dx = _; rw [upd_ne n, upd_same]))
        · have n1 : a ≠ p := fun z => na (.inl z)
          have n2 : a ≠ dx := fun z => na (.inr z)
          have q1 : H1 a = none := by
            show upd _ _ _ a = _
            rw [upd_ne n1, upd_ne n2]
            exact g2
          obtain ⟨t1, t2⟩ := V2.out a g1 q1 (fun z => z)
          exact ⟨by show (if _ then _ else _) = _; rw [if_neg na]; exact t1, t2⟩
    have hrp : H r = none := f3
    obtain ⟨t1, t2, t3⟩ := V.fresh hrp
    obtain ⟨ws, g1, g2⟩ := f2
    refine k r H3 H2' e03 (V.stp st) ?_ ⟨ws, g1, DenAll.forget fg g2 hbs⟩ t2 t3
    show (if _ then _ else _) = _
    split
    · rfl
    · exact f1
theorem f_peek {c j : Nat} {dx : Addr} {vs : List (Option B)} (h : FB C X e (ρ.set 0 (.va (.pob c j x))) (.lst bs) ρ1) (hno : noOw (ρ.set 0 (.va (.pob c j x)))) (hbs : noObs bs = true) (hx : vs[j]? = some (some x)) (hρ : ρ[0]? = some (.ow (.ins c dx vs)) := by rfl) : FB C X e ρ (.lst bs) ρ := pe_mono h (peek_read hno hbs hx hρ)
/-- y = [..] on one line, the instance in slot 0 is read -/
theorem q_lcP {ι : Type} (i : Nat) {n : Str} {py p2 : Pos} {c j : Nat} {dx : Addr} {vs : List (Option B)} {rest : List Stmt} {post : Out → Prop} {elt tg iter : Expr} {scope : Scope} {own : List (Str × Nat)} {ρb : List Sl} (zs : List ι) (inj : ι → B) (ρt : ι → List Sl) (f : ι → B) (hc : X.calm = true) (hN : X.N.Nodup)
    (hi : VB C X tg iter (ρ.set 0 (.va (.pob c j x))) (zs.map inj) ρ1) (ok : BlkOk X.N X.env.scope scope own) (hb : Blk ρ1 (own.map (·.2)) ρb)
    (hg : ∀ (s : Shared) (H : Hp) (Ca : Addr) (cl : List (Str × Addr)) (fp : List Addr) (z : ι), z ∈ zs → GB C (X.blk s H scope (compEnvC scope cl Ca X.env) fp) tg ρb (inj z) (ρt z) (own.map (·.2)))
    (he : ∀ (s : Shared) (H : Hp) (Ca : Addr) (cl : List (Str × Addr)) (fp : List Addr) (z : ι), z ∈ zs → EB C (X.blk s H scope (compEnvC scope cl Ca X.env) fp) elt (ρt z) (f z) (ρt z))
    (hl : zs.length ≤ sizeLine) (hno : noOw (ρ.set 0 (.va (.pob c j x)))) (hbs : noObs (zs.map f) = true) (hx : vs[j]? = some (some x)) (k : SB C X rest (ρ.set i (.ow (.lst (zs.map f)))) post) (hρ : ρ[0]? = some (.ow (.ins c dx vs)) := by rfl) (hy : X.N[i]? = some n := by rfl) (hyl : X.env.scope.names.lookup n = some .local := by rfl)
    (hsw : swapsWith (.ListComp elt [⟨tg, iter, [], 0⟩] scope p2) (some (.Name n py)) pos.line X.env = pure true := by exact sw_true rfl rfl rfl (by decide +kernel)) (hs : ∀ x, foldedSetIterable iter X.env x = pure x := by intro _; rfl) (h0 : i ≠ 0 := by decide) :
    SB C X (.Assign [.Name n py] (.ListComp elt [⟨tg, iter, [], 0⟩] scope p2) pos :: rest) ρ post := by
  refine q_cons (ps_mono (ps_setLc (g := fun v σ H Q => ∃ z, z ∈ zs ∧ gOf C ρb (inj z) (ρt z) (own.map (·.2)) v σ H Q) (tt := fun σ H Q => ∃ z, z ∈ zs ∧ cOf C (ρt z) true (ρt z) σ H Q) (te := fun σ H Q => ∃ z, z ∈ zs ∧ true = true ∧ tOf C (ρt z) (f z) (ρt z) σ H Q) hc hN hy hyl hsw hi ok
    (fun s H Ca cl fp => ⟨fun pins s' σ H v u Q I r ⟨z, hz, q⟩ => (hg s _ Ca cl fp z hz).run pins s' σ H v u Q I r q⟩) (fun s H Ca cl fp => ⟨fun pins s' σ H Q I ⟨z, hz, q⟩ => t_nil.run pins s' σ H Q I q⟩)
    (fun s H Ca cl fp => ⟨fun pins s' σ H Q I ⟨z, hz, _, q⟩ => (he s _ Ca cl fp z hz).run pins s' σ H Q I q⟩) hs) ?_)
  intro D σ H ⟨β, H0, V, K⟩
  have ef : zs.filter (fun _ => true) = zs := List.filter_eq_self.mpr fun _ _ => rfl
  refine lc_read (p := fun _ => true) hb hl σ H _ ?_
  rw [ef]
  exact peek_read hno hbs hx hρ σ H _ ⟨β, H0, V, fun p H1 H1' e1 V1 f1 f2 f3 f4 => K.1 _ k _ H1 H1' e1 (V1.own f1 f2 (.inl ⟨f3, h0⟩) f4)⟩
end
end Q
end

/-! text LayP -/
section
set_option Elab.async false
set_option linter.all false
set_option maxRecDepth 100000
/-! loops by folds -/
namespace Q
open PySem PySem.Spec PyProof.Rows L2
section
variable {X : Cx} {C : Ct} {e a b c : Expr} {es : List Expr} {ρ ρ1 ρ2 ρ3 : List Sl} {x y z : B} {xs ys bs : List B} {pos : Pos} {rest : List Stmt} {post : Out → Prop}
/-- for, as a fold that may fail -/
theorem q_forM {S : Type} {tg iter : Expr} {body : List Stmt} (F : S → List Sl) (step : S → B → Option S) (s0 fin : S) (hp : PassesOwn (model X.prog X.w) X.A X.env X.xe) (hc : X.calm = true) (hi : VB C X tg iter ρ xs ρ1) (hf : xs.foldlM step s0 = some fin) (h0 : Weak ρ1 (F s0))
    (hs : ∀ s s' x, x ∈ xs → step s x = some s' → ∃ ρ'' js, GB C X tg (F s) x ρ'' js ∧ SB C X body ρ'' (LoopP (fun ρ => ρ = F s') (Thn C X rest post))) (k : SB C X rest (F fin) post)
    (hfo : ∀ x, foldedSetIterable iter X.env x = pure x := by intro _; rfl) : SB C X (.For tg iter body [] pos :: rest) ρ post := by
  refine q_for (W := fun i ρ => ∃ s, ρ = F s ∧ (xs.drop i).foldlM step s = some fin) hp hc hi ⟨_, h0, s0, rfl, by simpa using hf⟩ (fun i x ρ' hx ⟨s, er, hg⟩ => ?_) (fun ρ' ⟨s, er, hg⟩ => ?_) hfo
  · subst er
    have hd : xs.drop i = x :: xs.drop (i + 1) := by
      obtain ⟨hl, e⟩ := List.getElem?_eq_some_iff.mp hx
      rw [List.drop_eq_getElem_cons hl, e]
    rw [hd, List.foldlM_cons] at hg
    cases hq : step s x with
    | none => rw [hq] at hg; cases hg
    | some s' =>
      rw [hq] at hg
      obtain ⟨ρ'', js, g1, g2⟩ := hs s s' x (List.mem_of_getElem? hx) hq
      refine ⟨ρ'', js, g1, pss_mono g2 fun D σ H ⟨β, H0, V, K⟩ => ⟨β, H0, V, fun ρ4 q => ?_, K.2.1, K.2.2.1, fun ρ4 q => ?_, K.2.2.2.2⟩⟩
      · obtain ⟨ρ5, w, e5⟩ := q
        exact K.1 ρ4 ⟨ρ5, w, s', e5, hg⟩
      · obtain ⟨ρ5, w, e5⟩ := q
        exact K.2.2.2.1 ρ4 ⟨ρ5, w, s', e5, hg⟩
  · subst er
    rw [List.drop_length, List.foldlM_nil] at hg
    cases hg
    exact k
/-- a while loop that may fail -/
def wloop {S : Type} (c : S → Option Bool) (f : S → Option S) : Nat → S → Option S
  | 0, _ => none
  | n + 1, s => match c s with
    | none => none
    | some false => some s
    | some true => (f s).bind (wloop c f n)
theorem q_whileM {S : Type} {t : Expr} {body : List Stmt} (F : S → List Sl) (c : S → Option Bool) (f : S → Option S) (n : Nat) (s0 fin : S) (hp : PassesOwn (model X.prog X.w) X.A X.env X.xe) (hf : wloop c f n s0 = some fin) (h0 : Weak ρ (F s0))
    (ht : ∀ s k, c s = some k → CB C X t (F s) k (F s)) (hs : ∀ s s', c s = some true → f s = some s' → SB C X body (F s) (LoopP (fun ρ => ρ = F s') (Thn C X rest post))) (k : SB C X rest (F fin) post) : SB C X (.While t body [] pos :: rest) ρ post := by
  refine q_while (W := fun m ρ => ∃ s, ρ = F s ∧ wloop c f m s = some fin) hp ⟨n, _, h0, s0, rfl, hf⟩ (fun m ρ' ⟨s, er, hg⟩ => ?_)
  subst er
  cases m with
  | zero => cases hg
  | succ m =>
    unfold wloop at hg
    cases hq : c s with
    | none => rw [hq] at hg; cases hg
    | some b =>
      rw [hq] at hg
      refine ⟨b, _, ht s b hq, fun hb => ?_, fun hb => ?_⟩
      · subst hb
        cases hz : f s with
        | none => rw [hz] at hg; cases hg
        | some s' =>
          rw [hz] at hg
          refine pss_mono (hs s s' hq hz) fun D σ H ⟨β, H0, V, K⟩ => ⟨β, H0, V, fun ρ4 q => ?_, K.2.1, K.2.2.1, fun ρ4 q => ?_, K.2.2.2.2⟩
          · obtain ⟨ρ5, w, e5⟩ := q
            exact K.1 ρ4 ⟨ρ5, w, m, Nat.lt_succ_self m, s', e5, hg⟩
          · obtain ⟨ρ5, w, e5⟩ := q
            exact K.2.2.2.1 ρ4 ⟨ρ5, w, m, Nat.lt_succ_self m, s', e5, hg⟩
      · subst hb
        cases hg
        exact k
theorem loop_nx {nxt : List Sl → Prop} {p : Out → Prop} (w : Weak ρ ρ1) (h : nxt ρ1) : LoopP nxt p (.nx ρ) := ⟨ρ1, w, h⟩
theorem loop_eq {p : Out → Prop} : LoopP (fun r => r = ρ) p (.nx ρ) := ⟨ρ, Weak.refl ρ, rfl⟩
theorem thn_mono {o : Out} {p q : Out → Prop} (h : ∀ o, p o → q o) : Thn C X rest p o → Thn C X rest q o := by
  cases o with
  | nx ρ => exact fun k => pss_mono k fun D σ H ⟨β, H0, V, K⟩ => ⟨β, H0, V, fun ρ z => K.1 ρ (h _ z), fun b ρ z => K.2.1 b ρ (h _ z), fun ρ z => K.2.2.1 ρ (h _ z), fun ρ z => K.2.2.2.1 ρ (h _ z), fun bs ρ z => K.2.2.2.2 bs ρ (h _ z)⟩
  | _ => exact h _
end
end Q
end

/-! text LayQ -/
section
set_option Elab.async false
set_option linter.all false
set_option maxRecDepth 100000
/-! loops by plain folds -/
namespace Q
open PySem PySem.Spec PyProof.Rows L2
section
variable {X : Cx} {C : Ct} {e a b c : Expr} {es : List Expr} {ρ ρ1 ρ2 ρ3 : List Sl} {x y z : B} {xs ys bs : List B} {pos : Pos} {rest : List Stmt} {post : Out → Prop}
theorem post_mono {sts : List Stmt} {p q : Out → Prop} (h : SB C X sts ρ p) (m : ∀ o, p o → q o) : SB C X sts ρ q := pss_mono h fun D σ H ⟨β, H0, V, K⟩ => ⟨β, H0, V, fun ρ z => K.1 ρ (m _ z), fun b ρ z => K.2.1 b ρ (m _ z), fun ρ z => K.2.2.1 ρ (m _ z), fun ρ z => K.2.2.2.1 ρ (m _ z), fun bs ρ z => K.2.2.2.2 bs ρ (m _ z)⟩
/-- for, as a fold, a word I stays true -/
theorem q_forP {S ι : Type} {tg iter : Expr} {body : List Stmt} (F : S → List Sl) (zs : List ι) (inj : ι → B) (g : S → ι → S) (s0 : S) (I : S → Prop) (hp : PassesOwn (model X.prog X.w) X.A X.env X.xe) (hc : X.calm = true) (hi : VB C X tg iter ρ (zs.map inj) ρ1) (h0 : Weak ρ1 (F s0)) (i0 : I s0)
    (hs : ∀ s z, z ∈ zs → I s → I (g s z) ∧ ∃ ρ'' js, GB C X tg (F s) (inj z) ρ'' js ∧ SB C X body ρ'' (LoopP (fun ρ => ρ = F (g s z)) (Thn C X rest post))) (k : I (zs.foldl g s0) → SB C X rest (F (zs.foldl g s0)) post)
    (hfo : ∀ x, foldedSetIterable iter X.env x = pure x := by intro _; rfl) : SB C X (.For tg iter body [] pos :: rest) ρ post := by
  have len : (zs.map inj).length = zs.length := List.length_map ..
  refine q_for (W := fun i ρ => I ((zs.take i).foldl g s0) ∧ ρ = F ((zs.take i).foldl g s0)) hp hc hi ⟨_, h0, by simpa using i0, by simp⟩ (fun i x ρ' hx ⟨hI, er⟩ => ?_) (fun ρ' ⟨hI, er⟩ => ?_) hfo
  · subst er
    rw [List.getElem?_map] at hx
    cases hz : zs[i]? with
    | none => rw [hz] at hx; cases hx
    | some z =>
      rw [hz] at hx
      cases hx
      obtain ⟨hl, ez⟩ := List.getElem?_eq_some_iff.mp hz
      have et : zs.take (i + 1) = zs.take i ++ [z] := by rw [List.take_succ_eq_append_getElem hl, ez]
      have ef : (zs.take (i + 1)).foldl g s0 = g ((zs.take i).foldl g s0) z := by rw [et, List.foldl_append]; rfl
      obtain ⟨hI', ρ'', js, g1, g2⟩ := hs _ z (List.mem_of_getElem? hz) hI
      refine ⟨ρ'', js, g1, post_mono g2 fun o q => ?_⟩
      cases o with
      | nx ρ4 =>
        obtain ⟨ρ5, w, e5⟩ := q
        exact ⟨ρ5, w, by rw [ef]; exact hI', by rw [ef]; exact e5⟩
      | ct ρ4 =>
        obtain ⟨ρ5, w, e5⟩ := q
        exact ⟨ρ5, w, by rw [ef]; exact hI', by rw [ef]; exact e5⟩
      | _ => exact q
  · subst er
    rw [len, List.take_length] at hI ⊢
    exact k hI
end
end Q
end

/-! text LayR -/
section
set_option Elab.async false
set_option linter.all false
set_option maxRecDepth 100000
/-! loops by folds that may fail, over a list of indices -/
namespace Q
open PySem PySem.Spec PyProof.Rows L2
section
variable {X : Cx} {C : Ct} {e a b c : Expr} {es : List Expr} {ρ ρ1 ρ2 ρ3 : List Sl} {x y z : B} {xs ys bs : List B} {pos : Pos} {rest : List Stmt} {post : Out → Prop}
theorem q_forZ {S ι : Type} {tg iter : Expr} {body : List Stmt} (F : S → List Sl) (zs : List ι) (inj : ι → B) (step : S → ι → Option S) (s0 fin : S) (hp : PassesOwn (model X.prog X.w) X.A X.env X.xe) (hc : X.calm = true) (hi : VB C X tg iter ρ (zs.map inj) ρ1) (hf : zs.foldlM step s0 = some fin) (h0 : Weak ρ1 (F s0))
    (hs : ∀ s s' z, z ∈ zs → step s z = some s' → ∃ ρ'' js, GB C X tg (F s) (inj z) ρ'' js ∧ SB C X body ρ'' (LoopP (fun ρ => ρ = F s') (Thn C X rest post))) (k : SB C X rest (F fin) post)
    (hfo : ∀ x, foldedSetIterable iter X.env x = pure x := by intro _; rfl) : SB C X (.For tg iter body [] pos :: rest) ρ post := by
  have len : (zs.map inj).length = zs.length := List.length_map ..
  refine q_for (W := fun i ρ => ∃ s, ρ = F s ∧ (zs.drop i).foldlM step s = some fin) hp hc hi ⟨_, h0, s0, rfl, by simpa using hf⟩ (fun i x ρ' hx ⟨s, er, hg⟩ => ?_) (fun ρ' ⟨s, er, hg⟩ => ?_) hfo
  · subst er
    rw [List.getElem?_map] at hx
    cases hz : zs[i]? with
    | none => rw [hz] at hx; cases hx
    | some z =>
      rw [hz] at hx
      cases hx
      have hd : zs.drop i = z :: zs.drop (i + 1) := by
        obtain ⟨hl, e⟩ := List.getElem?_eq_some_iff.mp hz
        rw [List.drop_eq_getElem_cons hl, e]
      rw [hd, List.foldlM_cons] at hg
      cases hq : step s z with
      | none => rw [hq] at hg; cases hg
      | some s' =>
        rw [hq] at hg
        obtain ⟨ρ'', js, g1, g2⟩ := hs s s' z (List.mem_of_getElem? hz) hq
        refine ⟨ρ'', js, g1, post_mono g2 fun o q => ?_⟩
        cases o with
        | nx ρ4 =>
          obtain ⟨ρ5, w, e5⟩ := q
          exact ⟨ρ5, w, s', e5, hg⟩
        | ct ρ4 =>
          obtain ⟨ρ5, w, e5⟩ := q
          exact ⟨ρ5, w, s', e5, hg⟩
        | _ => exact q
  · subst er
    rw [len, List.drop_length, List.foldlM_nil] at hg
    cases hg
    exact k
end
end Q
end

/-! text LayS -/
section
set_option Elab.async false
set_option linter.all false
set_option maxRecDepth 100000
/-! range objects as values -/
namespace Q
open PySem PySem.Spec PyProof.Rows L2
section
variable {X : Cx} {C : Ct} {tg e a b c : Expr} {ρ ρ1 : List Sl} {pos p : Pos}
theorem call_rng1 : CallR X (.type "range") (fun vs H Q => ∃ j, vs = [V.int j] ∧ ∀ p, H p = none → Q (.ref p) (upd H p (.rng 0 j))) := by
  intro pins s σ H vs us Q I r h
  obtain ⟨j, rfl, q⟩ := h
  obtain ⟨u1, rfl, ru⟩ := r.one
  obtain ⟨t, rfl⟩ := ru
  refine call_range_1 ⟨.ref s.heap.objs.size, upd H s.heap.objs.size (.rng 0 j), I.laid (t' := s.toks + 1 + 1) (fun b o e => Heap.get?_push_of_some _ e) (Nat.le_refl _) ?_, rfl, q _ (I.hok.fresh (Nat.le_refl _))⟩
  exact ⟨s.toks, t, s.toks + 1, Heap.get?_push_size _ rfl⟩
/-- range(e), stored -/
theorem e_rng1 {n : Int} (hm : X.mg "range" = none) (ha : EB C X a ρ (.int n) ρ1) (hg : Gl X "range" := by rfl) (hs : starEach [a] X.env = [(false, eval a X.env)] := by rfl) : EB C X (.Call (.Name "range" p) [a] [] pos) ρ (.rng 0 n) ρ1 :=
  e_callTy call_rng1 hm (by decide +kernel) (a_cons ha a_nil hs) (fun H0 H vs Q d ex q => by
    obtain ⟨v, rfl, dv⟩ := one_den d
    cases den_int dv
    refine ⟨n, rfl, fun p hp => ?_⟩
    have s := Stp.new (o := .rng 0 n) ex hp
    exact q _ _ _ s (.rng upd_same)) hg (by decide) (by decide) hs rfl
/-- a range object is walked -/
def iRngV (te : TE) : TI := fun σ H R => te σ H fun x H1 => ∃ (a : Addr) (lo hi : Int), x = .ref a ∧ H1 a = some (.rng lo hi) ∧ (-(2 ^ 62) ≤ lo ∧ lo < 2 ^ 62 ∧ -(2 ^ 62) ≤ hi ∧ hi < 2 ^ 62) ∧ R (Itr lo (hi - lo).toNat) H1
theorem pi_rngV {te : TE} (he : PE X e te) : PI X tg e (iRngV te) := by
  refine ⟨fun pins s σ H R I h => ?_⟩
  refine thn (he.run pins s σ H _ I h) ?_
  rintro u s1 ⟨x, H1, I1, rx, a, lo, hi, rfl, ha, ⟨b1, b2, b3, b4⟩, q⟩
  obtain rfl : u = Value.ref a := rx
  obtain ⟨t, u2, v, ho⟩ := (show ObjOk X.prog X.w H1 s1.heap a (.rng lo hi) from I1.hok a _ ha)
  refine wpAny_pyIter_range (t := t) (u := u2) (v := v) (a := lo) (b := hi) (c := 1) ho (small_one b1 b2 b3 b4) ?_
  refine ⟨s1.heap.objs.size, [s1.heap.objs.size], _, _, H1, rfl, I1.kept (t' := s1.toks) fun b o e => Heap.get?_push_of_some _ e, turn_range _ lo (hi - lo).toNat, ?_, fun b hb => ?_, q⟩
  · have e1 : lo + ((0 : Nat) : Int) * 1 = lo := by simp
    have e2 : (((hi - lo).toNat : Nat) : Int) - ((0 : Nat) : Int) = Builtin.Range.rangeSize lo hi 1 := by rw [rangeSize_one]; split <;> omega
    show IsRangeIter _ _ (lo + ((0 : Nat) : Int) * 1) ((((hi - lo).toNat : Nat) : Int) - ((0 : Nat) : Int)) 1
    rw [e1, e2]
    exact Heap.get?_push_size _ rfl
  · have eb : b = s1.heap.objs.size := by simpa using hb
    subst eb
    exact I1.fpOk (Nat.le_refl _) (I1.hok.fresh (Nat.le_refl _))
theorem v_rngV {lo hi : Int} (h : EB C X e ρ (.rng lo hi) ρ1) (h1 : -(2 ^ 62) ≤ lo ∧ lo < 2 ^ 62) (h2 : -(2 ^ 62) ≤ hi ∧ hi < 2 ^ 62) : VB C X tg e ρ (rngB lo (hi - lo).toNat) ρ1 :=
  pi_mono (pi_rngV h) fun σ H R ⟨β, H0, V, k⟩ => ⟨β, H0, V, fun v H1 H1' e1 V1 d1 => by
    cases d1 with
    | rng g => exact ⟨_, lo, hi, rfl, V1.ex _ _ g, ⟨h1.1, h1.2, h2.1, h2.2⟩, k _ H1 H1' e1 V1 yl_rng⟩⟩
end
end Q
end

/-! text LayT -/
section
set_option Elab.async false
set_option linter.all false
set_option maxRecDepth 100000
/-! loops by plain folds, the word knows the turn -/
namespace Q
open PySem PySem.Spec PyProof.Rows L2
section
variable {X : Cx} {C : Ct} {e a b c : Expr} {es : List Expr} {ρ ρ1 ρ2 ρ3 : List Sl} {x y z : B} {xs ys bs : List B} {pos : Pos} {rest : List Stmt} {post : Out → Prop}
theorem q_forI {S ι : Type} {tg iter : Expr} {body : List Stmt} (F : S → List Sl) (zs : List ι) (inj : ι → B) (g : S → ι → S) (s0 : S) (I : Nat → S → Prop) (hp : PassesOwn (model X.prog X.w) X.A X.env X.xe) (hc : X.calm = true) (hi : VB C X tg iter ρ (zs.map inj) ρ1) (h0 : Weak ρ1 (F s0)) (i0 : I 0 s0)
    (hs : ∀ i s z, zs[i]? = some z → I i s → I (i + 1) (g s z) ∧ ∃ ρ'' js, GB C X tg (F s) (inj z) ρ'' js ∧ SB C X body ρ'' (LoopP (fun ρ => ρ = F (g s z)) (Thn C X rest post))) (k : I zs.length (zs.foldl g s0) → SB C X rest (F (zs.foldl g s0)) post)
    (hfo : ∀ x, foldedSetIterable iter X.env x = pure x := by intro _; rfl) : SB C X (.For tg iter body [] pos :: rest) ρ post := by
  have len : (zs.map inj).length = zs.length := List.length_map ..
  refine q_for (W := fun i ρ => I i ((zs.take i).foldl g s0) ∧ ρ = F ((zs.take i).foldl g s0)) hp hc hi ⟨_, h0, by simpa using i0, by simp⟩ (fun i x ρ' hx ⟨hI, er⟩ => ?_) (fun ρ' ⟨hI, er⟩ => ?_) hfo
  · subst er
    rw [List.getElem?_map] at hx
    cases hz : zs[i]? with
    | none => rw [hz] at hx; cases hx
    | some z =>
      rw [hz] at hx
      cases hx
      obtain ⟨hl, ez⟩ := List.getElem?_eq_some_iff.mp hz
      have et : zs.take (i + 1) = zs.take i ++ [z] := by rw [List.take_succ_eq_append_getElem hl, ez]
      have ef : (zs.take (i + 1)).foldl g s0 = g ((zs.take i).foldl g s0) z := by rw [et, List.foldl_append]; rfl
      obtain ⟨hI', ρ'', js, g1, g2⟩ := hs i _ z hz hI
      refine ⟨ρ'', js, g1, post_mono g2 fun o q => ?_⟩
      cases o with
      | nx ρ4 =>
        obtain ⟨ρ5, w, e5⟩ := q
        exact ⟨ρ5, w, by rw [ef]; exact hI', by rw [ef]; exact e5⟩
      | ct ρ4 =>
        obtain ⟨ρ5, w, e5⟩ := q
        exact ⟨ρ5, w, by rw [ef]; exact hI', by rw [ef]; exact e5⟩
      | _ => exact q
  · subst er
    rw [len] at hI ⊢
    rw [List.take_length] at hI ⊢
    exact k hI
end
end Q
end

/-! text LayU -/
section
set_option Elab.async false
set_option linter.all false
set_option maxRecDepth 100000
/-! data that may be compared -/
namespace Q
open PySem PySem.Spec PyProof.Rows L2
structure CmpN (n : Nat) (x : B) : Prop where
  ip : isPy x = true
  cl : (py x).canLay0 = true
  dp : (py x).depth ≤ n
theorem CmpN.cmp {n : Nat} {x : B} (h : CmpN n x) (hn : n ≤ 64) : Cmp x := ⟨h.ip, by
  unfold SeqAt.shaped
  rw [h.cl, decide_eq_true (Nat.le_trans h.dp hn)]
  rfl⟩
theorem cmpn_int (i : Int) : CmpN 1 (.int i) := ⟨by rw [isPy], by rw [py, PyData.canLay0], by rw [py]; simp [PyData.depth]⟩
theorem cmpn_bl (i : Bool) : CmpN 1 (.bl i) := ⟨by rw [isPy], by rw [py, PyData.canLay0], by rw [py]; simp [PyData.depth]⟩
theorem cmpn_non : CmpN 1 .non := ⟨by rw [isPy], by rw [py, PyData.canLay0], by rw [py]; simp [PyData.depth]⟩
theorem cmpn_all {n : Nat} : ∀ {xs : List B}, (∀ x ∈ xs, CmpN n x) → isPys xs = true ∧ PyData.canLayAll0 (pys xs) = true ∧ PyData.depthAll (pys xs) ≤ n
  | [], _ => ⟨by rw [isPys], by rw [pys, PyData.canLayAll0], by rw [pys]; simp [PyData.depthAll]⟩
  | x :: xs, h => by
    obtain ⟨a, b, c⟩ := cmpn_all (xs := xs) fun y hy => h y (List.mem_cons_of_mem _ hy)
    have hx := h x (List.mem_cons_self ..)
    refine ⟨?_, ?_, ?_⟩
    · rw [isPys, hx.ip, a]; rfl
    · rw [pys, PyData.canLayAll0, hx.cl, b]; rfl
    · rw [pys]
      have := hx.dp
      simp [PyData.depthAll]
      omega
theorem cmpn_lst {n : Nat} {xs : List B} (h : ∀ x ∈ xs, CmpN n x) : CmpN (n + 1) (.lst xs) := by
  obtain ⟨a, b, c⟩ := cmpn_all h
  refine ⟨by rw [isPy]; exact a, by rw [py, PyData.canLay0]; exact b, ?_⟩
  rw [py]
  simp only [PyData.depth]
  omega
theorem cmpn_tup {n : Nat} {xs : List B} (h : ∀ x ∈ xs, CmpN n x) : CmpN (n + 1) (.tup xs) := by
  obtain ⟨a, b, c⟩ := cmpn_all h
  refine ⟨by rw [isPy]; exact a, by rw [py, PyData.canLay0]; exact b, ?_⟩
  rw [py]
  simp only [PyData.depth]
  omega
theorem cmpn_it (ns : List Int) : CmpN 2 (.tup (ns.map B.int)) := cmpn_tup fun x hx => by
  obtain ⟨i, _, rfl⟩ := List.mem_map.mp hx
  exact cmpn_int i
theorem cmpn_il (ns : List Int) : CmpN 2 (.lst (ns.map B.int)) := cmpn_lst fun x hx => by
  obtain ⟨i, _, rfl⟩ := List.mem_map.mp hx
  exact cmpn_int i
/-- a list against the empty one -/
theorem eqv_nil (xs : List B) : PyData.eqv (py (.lst xs)) (py (.lst [])) = xs.isEmpty := by
  rw [py, py]
  cases xs with
  | nil => rw [pys]; simp [PyData.eqv, PyData.eqvAll]
  | cons x r => rw [pys, pys]; simp [PyData.eqv, PyData.eqvAll]
end Q
end

/-! text LayV -/
section
set_option Elab.async false
set_option linter.all false
set_option maxRecDepth 100000
/-! tuple[::-1] -/
namespace QT
open PySem PySem.Spec PyProof.Rows HT
section
variable {prog : Program} {w : World} {A : Around} {E : Value → Shared → Prop} {s : Shared}
theorem places_down (n : Nat) : Builtin.Slice.slicePlaces ((n : Int) - 1) (-1) (-1) = n := by
  unfold Builtin.Slice.slicePlaces
  rw [if_neg (by decide)]
  by_cases h : (n : Int) - 1 > -1
  · rw [if_pos h]
    have e : ((n : Int) - 1 - -1 - 1) / -(-1) + 1 = (n : Int) := by
      rw [show (-(-1) : Int) = 1 by decide, Int.ediv_one]
      omega
    rw [e, Int.toNat_natCast]
  · rw [if_neg h]
    omega
theorem fm_congr {α β : Type} {f g : α → Option β} : ∀ {l : List α}, (∀ a ∈ l, f a = g a) → l.filterMap f = l.filterMap g
  | [], _ => rfl
  | a :: r, h => by
    rw [List.filterMap_cons, List.filterMap_cons, h a (List.mem_cons_self ..), fm_congr (l := r) fun b hb => h b (List.mem_cons_of_mem _ hb)]
theorem pick_down (xs : Array Value) : ((List.range xs.size).filterMap fun (k : Nat) => xs[(((xs.size : Int) - 1) + (k : Int) * (-1)).toNat]?).toArray = xs.toList.reverse.toArray := by
  have e : (List.range xs.size).filterMap (fun (k : Nat) => xs[(((xs.size : Int) - 1) + (k : Int) * (-1)).toNat]?) = ((List.range xs.size).map fun k => xs.size - 1 - k).filterMap (xs[·]?) := by
    rw [List.filterMap_map]
    refine fm_congr fun k hk => ?_
    have := List.mem_range.mp hk
    have q : (((xs.size : Int) - 1) + (k : Int) * (-1)).toNat = xs.size - 1 - k := by omega
    show xs[_]? = xs[_]?
    rw [q]
  rw [e, PySem.W.krv_range, List.filterMap_reverse, PySem.W.krv_all]
theorem applied_down {sl : Addr} {vk : Value} {n : Nat} {Q : Int × Int × Nat → Shared → Prop} (hs : s.heap.IsSliceOf sl .none .none vk) (pk : IsPart vk (some (-1)))
    (h : Q ((n : Int) - 1, -1, n) s) : wpAny (model prog w) A (Builtin.Slice.sliceApplied (.ref sl) (pure (n : Int))) Q E s := by
  obtain ⟨os, hos, hcs, hds⟩ := id hs
  unfold Builtin.Slice.sliceApplied Builtin.Slice.sliceFields
  refine wpAny_bind (wpAny_bind (wpAny_field hos hds (x := .none) rfl (wpAny_bind (wpAny_field hos hds (x := .none) rfl (wpAny_bind (wpAny_field hos hds (x := vk) rfl (wpAny_pure ?_)))))))
  refine wpAny_bind (slicePart_ pk ?_)
  show wpAny _ _ (if ((-1 : Int) == 0) = true then _ else _) _ _ s
  rw [if_neg (by decide)]
  refine wpAny_bind (slicePart_none (wpAny_bind (slicePart_none (wpAny_bind (wpAny_pure ?_)))))
  show wpAny _ _ (pure ((n : Int) - 1, (-1 : Int), Builtin.Slice.slicePlaces ((n : Int) - 1) (-1) (-1))) _ _ s
  rw [places_down]
  exact wpAny_pure h
theorem getItem_rev {t sl : Addr} {items : Array Value} {vk : Value} {Q : Value → Shared → Prop} (ht : IsTup s.heap t items) (hs : s.heap.IsSliceOf sl .none .none vk) (pk : IsPart vk (some (-1)))
    (h : Q (.ref s.heap.objs.size) { s with heap := s.heap.push { cls := .type "tuple", data := .seq items.toList.reverse.toArray } }) (hsz : items.size ≤ sizeLine) : wpAny (model prog w) A (getItem (.ref t) (.ref sl)) Q E s := by
  have room : sizeOk (.seq items.toList.reverse.toArray) := by
    show items.toList.reverse.toArray.size ≤ sizeLine
    rw [List.size_toArray, List.length_reverse, Array.length_toList]
    exact hsz
  obtain ⟨os, hos, hcs, hds⟩ := id hs
  have hTs : s.TypeIs (.ref sl) "slice" := ⟨os, hos, hcs⟩
  unfold getItem
  try with_reducible refine wpAny_holding ?_
  first | refine wpAny_bind (wpAny_pure ?_) | skip
  refine wpAny_bind (wpAny_sequenceKey ht.typeIs (by decide) ?_)
  refine wpAny_bind (wpAny_callSpecial?_slot (name := Str.ofString "__getitem__") ht.typeIs PyProof.Rows.slot_tuple_getitem
    (wpAny_call_entry PyProof.Rows.slot_tuple_getitem ht.typeIs entry_tuple_getitem ?_ (args_tuple_getitem _ _)))
  show wpAny _ _ (Builtin.Tuple.tupleItemsOf (.ref t) >>= _) _ _ s
  refine wpAny_bind (tupleItemsOf_ ht ?_)
  refine wpAny_bind (wpAny_typeOf hTs ?_)
  rw [if_pos (by decide)]
  refine wpAny_bind (applied_down hs pk ?_)
  have no : ¬ ((((items.size : Int) - 1) == 0 && (-1 : Int) == 1 && items.size == items.size) = true) := by simp
  show wpAny _ _ (if (((items.size : Int) - 1) == 0 && (-1 : Int) == 1 && items.size == items.size) = true then _ else _) _ _ s
  rw [if_neg no, pick_down]
  first
    | exact wpAny_bind (m := Builtin.Tuple.tupleExact _) (wpAny_newObj_type (wpAny_pure ⟨_, rfl, wpAny_pure h⟩) room)
    | exact wpAny_bind (m := Builtin.Tuple.tupleExact _) (wpAny_newObj_type (wpAny_bind (wpAny_pure (wpAny_pure ⟨_, rfl, wpAny_pure h⟩))) room)
    | exact wpAny_bind (wpAny_bind (m := Builtin.Tuple.tupleExact _) (wpAny_newObj_type (wpAny_pure (wpAny_pure ⟨_, rfl, wpAny_pure h⟩)) room))
    | exact wpAny_bind (wpAny_bind (m := Builtin.Tuple.tupleExact _) (wpAny_newObj_type (wpAny_pure ⟨_, rfl, wpAny_pure h⟩) room))
end
end QT
namespace Q
open PySem PySem.Spec PyProof.Rows L2
section
variable {X : Cx} {C : Ct} {e : Expr} {ρ ρ1 : List Sl} {xs : List B} {pos : Pos}
def tRevT (K : PySem.W.Frag) (te : TE) : TE := fun σ H Q => te σ H fun x H1 => ∃ a xs, x = .ref a ∧ SqT K H1 a xs ∧ ∀ p, H1 p = none → Q (.ref p) (upd H1 p (.tup xs.reverse))
theorem pe_revT {e : Expr} {te : TE} {k : Nat} {p1 p2 p3 pos : Pos} (he : PE X e te) : PE X (.Subscript e (.Slice none none (some (.UnaryOp .USub (.Constant (.int 1) k p1) p2)) p3) pos) (tRevT X.K te) := by
  refine ⟨fun pins s σ H Q I h => Subscript_ (thn (he.run pins s σ H _ I h) ?_)⟩
  rintro v s1 ⟨x, H1, I1, r1, a, xs, rfl, hx, q⟩
  cases r1
  have hst : PO X (some (.UnaryOp .USub (.Constant (.int 1) k p1) p2)) (tPart (tUn (rU fun i => .int (-i)) (tC (.int 1)))) := po_some (pe_un un_neg pe_int)
  refine wpAny_Slice (thn (po_none.run pins s1 σ H1 (fun o H2 => o = none ∧ H2 = H1) I1 ⟨rfl, rfl⟩) ?_)
  rintro vl s2 ⟨l, H2, I2, pl, rfl, rfl⟩
  refine thn (po_none.run pins s2 σ H2 (fun o H3 => o = none ∧ H3 = H2) I2 ⟨rfl, rfl⟩) ?_
  rintro vu s3 ⟨u, H3, I3, pu, rfl, rfl⟩
  refine thn (hst.run pins s3 σ H3 (fun o H4 => o = some (-1) ∧ H4 = H3) I3 ⟨1, rfl, -1, rfl, rfl, rfl⟩) ?_
  rintro vs s4 ⟨o, H4, I4, ps, rfl, rfl⟩
  have I5 : Inv X pins σ H4 { s4 with heap := s4.heap.push { cls := .type "slice", data := .fields #[vl, vu, vs] } } := I4.kept (t' := s4.toks) fun b ob q => Heap.get?_push_of_some _ q
  obtain ⟨its, r, ht, hz⟩ := I5.tuple hx
  have hlen := r.length
  cases pl
  cases pu
  show wpAny (model X.prog X.w) X.A (subscriptTail e (.Slice none none (some (.UnaryOp .USub (.Constant (.int 1) k p1) p2)) p3) (.ref a) (.ref s4.heap.objs.size)) (EP X pins σ Q) X.xe { s4 with heap := s4.heap.push { cls := .type "slice", data := .fields #[.none, .none, vs] } }
  refine tail_any (ops := [.ref a, .ref s4.heap.objs.size]) ht.typeIs (PyProof.Rows.slot_tuple_getitem.lookup) ?_ (by with_unfolding_all rfl)
  refine QT.getItem_rev ht (Heap.IsSliceOf.new _ .none .none vs) ps ?_ (by rw [List.size_toArray]; omega)
  refine ⟨.ref _, _, I5.laid (t' := s4.toks) (o := .tup xs.reverse) (fun b ob q => Heap.get?_push_of_some _ q) (Nat.le_refl _) ?_, rfl, q _ (I5.hok.fresh (Nat.le_refl _))⟩
  exact ⟨by rw [List.length_reverse]; exact hz, _, r.reverse, IsTup.new _ _⟩
theorem DenAll.rev {C : Ct} {H : Hp} : ∀ {vs : List L2.V} {bs : List B}, DenAll C H vs bs → DenAll C H vs.reverse bs.reverse
  | _, _, .nil => .nil
  | _, _, .cons h r => by rw [List.reverse_cons, List.reverse_cons]; exact (DenAll.rev r).append (.cons h .nil)
theorem e_revT {k : Nat} {p1 p2 p3 : Pos} (he : EB C X e ρ (.tup xs) ρ1) : EB C X (.Subscript e (.Slice none none (some (.UnaryOp .USub (.Constant (.int 1) k p1) p2)) p3) pos) ρ (.tup xs.reverse) ρ1 :=
  pe_mono (pe_revT he) fun σ H Q ⟨β, H0, V, q⟩ => ⟨β, H0, V, fun v H1 H1' e1 V1 d1 => by
    cases d1 with
    | @tup a ws bs h r =>
      refine ⟨_, _, rfl, .inl (.inl (V1.ex _ _ h)), fun p hp => ?_⟩
      have s := Stp.new (o := .tup ws.reverse) V1.ex hp
      exact q _ _ _ (e1.trans s.e0) (V1.stp s) (.tup upd_same (r.rev.mono s.e0))⟩
end
end Q
end

/-! text LayW -/
section
set_option Elab.async false
set_option linter.all false
set_option maxRecDepth 100000
/-! a lambda as the key of sorted -/
namespace Q
open PySem PySem.Spec PyProof.Rows L2
/-- the lambda is made; nothing is changed but the table of code objects at P -/
theorem lam_new {X : Cx} {pins : List (Addr × Obj)} {σ : L2.St} {H : Hp} {s : Shared} {c P : Addr} {pr : Arguments} {bd : Expr} {sc : Scope} {pos : Pos} {E Q : Value → Shared → Prop} (I : Inv X pins σ H s) (TB : LamX.TabB X.base X.mg c P) (hcode : X.env.code = .ref c)
    (hT : LamX.TabS H P (X.env.qual ++ "<lambda>")) (hdef : defaultsOf pr X.env = ([], [])) (hfree : ∀ y ∈ sc.names, y.2 = .free → ∃ c, X.env.cells.lookup y.1 = some c)
    (k : ∀ (f c' : Addr) (pm ctv : Value) (H1 : Hp) (s1 : Shared), Inv X pins σ H1 s1 → (∀ b, b ≠ P → b ≠ c' → H1 b = H b) → H c' ≠ some (.tbl #[]) → (∀ b o, b ≠ P → H b = some o → H1 b = some o) → LamX.TabS H1 P (X.env.qual ++ "<lambda>") →
      s1.heap.get? f = some (PySem.W.kla_obj "<lambda>" (X.env.qual ++ "<lambda>") pr bd sc (cloFrom X.env.cells sc.names []) pm c' ctv) → H1 f = none → H1 c' = some (LamX.CodeO c' (X.env.qual ++ "<lambda>")) → Q (.ref f) s1) :
    wpAny (model X.prog X.w) X.A (eval (.Lambda pr bd sc pos) X.env) Q E s := by
  obtain ⟨tb, atP, ok, named⟩ := hT
  have objP : s.heap.get? P = some { cls := .none, data := .fields tb } := I.hok P _ atP
  have bltP : s.heap.BuiltinsAt X.mg P := TB.bm.keeps I.bk
  have headC := TB.code.keeps I.bk
  refine PySem.W.kla_eval hdef ?_
  cases hit : codeAmong pos tb.toList with
  | some cv =>
    obtain ⟨c', rfl, at'⟩ := named pos cv hit
    refine PySem.W.kla_makeFunctionHit (mg := X.mg) (c := c) (P := P) (ps := tb) (closure_ok hfree) I.ok.glob (I.mod.glob.keeps I.bk) hcode headC objP ok hit bltP fun ctv h' tk same le => ?_
    refine k h'.objs.size c' _ ctv H _ (I.kept fun b o e => Heap.get?_push_of_some _ (same b o e)) (fun _ _ _ => rfl) (by rw [at']; unfold LamX.CodeO; exact fun z => nomatch z) (fun _ _ _ e => e) ⟨tb, atP, ok, named⟩ (Heap.get?_push_size _ rfl) (I.hok.fresh le) at'
  | none =>
    refine PySem.W.kla_makeFunction (mg := X.mg) (c := c) (P := P) (ps := tb) (closure_ok hfree) I.ok.glob (I.mod.glob.keeps I.bk) hcode headC objP ok hit TB.gP bltP fun c' ctv h' tk ext ge lt rc tab => ?_
    obtain ⟨c2, oc, vs, t, e2, hoc, hd, hv⟩ := rc
    cases e2
    have freeC : H c' = none := I.hok.fresh ge
    have nPc : P ≠ c' := fun z => by rw [z, freeC] at atP; cases atP
    have I1 := LamX.inv_table (q := X.env.qual ++ "<lambda>") (t' := tk) (more := #[rawInt pos.line, rawInt pos.col, .ref c']) (h' := h'.push (PySem.W.kla_obj "<lambda>" (X.env.qual ++ "<lambda>") pr bd sc (cloFrom X.env.cells sc.names []) ((X.mg "__name__").getD .none) c' ctv)) I atP
      (fun b o n e => Heap.get?_push_of_some _ (ext b o n e)) (Heap.get?_push_of_some _ tab) ge ⟨oc, vs, t, Heap.get?_push_of_some _ hoc, hd, hv⟩
    have ll : (tb ++ #[rawInt pos.line, rawInt pos.col, .ref c']).toList = tb.toList ++ [rawInt pos.line, rawInt pos.col, .ref c'] := by simp
    have stay : ∀ b o, b ≠ P → H b = some o → upd (upd H P (.tbl (tb ++ #[rawInt pos.line, rawInt pos.col, .ref c']))) c' (LamX.CodeO c' (X.env.qual ++ "<lambda>")) b = some o := fun b o n e => by
      rw [upd_ne (fun z => by rw [z, freeC] at e; cases e), upd_ne n]
      exact e
    have le : s.heap.objs.size ≤ h'.objs.size := Nat.le_trans ge (Nat.le_of_lt lt)
    refine k h'.objs.size c' _ ctv _ _ I1 (fun b n1 n2 => by rw [upd_ne n2, upd_ne n1]) (by rw [freeC]; exact fun z => nomatch z) stay ⟨_, by rw [upd_ne nPc, upd_same], by rw [ll]; exact PySem.TriplesOk_snoc _ _ _ _ ok, fun p' cv hc => ?_⟩ (Heap.get?_push_size _ rfl) ?_ upd_same
    · rw [ll] at hc
      rcases LamX.among_app _ ok hc with z | z
      · obtain ⟨c0, e1, e2⟩ := named p' cv z
        refine ⟨c0, e1, stay _ _ (fun z => ?_) e2⟩
        rw [z, atP] at e2
        unfold LamX.CodeO at e2
        cases e2
      · exact ⟨c', z, upd_same⟩
    · have n1 : h'.objs.size ≠ c' := Nat.ne_of_gt lt
      have n2 : h'.objs.size ≠ P := Nat.ne_of_gt (Nat.lt_of_lt_of_le (Heap.lt_size objP) le)
      rw [upd_ne n1, upd_ne n2]
      exact I.hok.fresh le
/-- the lambda's key: the size of an item -/
def kAbs (at_ : Nat) (r : List Int) : Int := if r.getD at_ 0 < 0 then -(r.getD at_ 0) else r.getD at_ 0
abbrev lamP (q : Pos) : Arguments := { posonlyargs := [], args := [{ arg := "_law_row", annotation := none, pos := q }], vararg := none, kwonlyargs := [], kw_defaults := [], kwarg := none, defaults := [] }
abbrev lamB (q1 q2 q3 q4 q5 : Pos) : Expr := .Call (.Name "abs" q1) [.Subscript (.Name "_law_row" q2) (.Name "_law_at" q3) q4] [] q5
abbrev lamSc : Scope := { kind := .function, names := [("_law_row", .local), ("_law_at", .free), ("abs", .globalImplicit)], isGenerator := false, isCoroutine := false }
/-- the key's call, in any later heap -/
theorem lam_key {X : Cx} {pins : List (Addr × Obj)} {σ : L2.St} {H : Hp} {s : Shared} {f c' ca : Addr} {pm ctv : Value} {at_ : Nat} {t0 : Tok} {row : List Int} {a : Addr} {q q1 q2 q3 q4 q5 : Pos} (I : Inv X pins σ H s)
    (hf : s.heap.get? f = some (PySem.W.kla_obj "<lambda>" (X.env.qual ++ "<lambda>") (lamP q) (lamB q1 q2 q3 q4 q5) lamSc (cloFrom X.env.cells lamSc.names []) pm c' ctv)) (hc : H c' = some (LamX.CodeO c' (X.env.qual ++ "<lambda>")))
    (hca : X.env.cells.lookup ("_law_at" : Str) = some ca) (hcell : s.heap.IsCell ca (some (.int (at_ : Int) t0))) (hrow : H a = some (.tup (row.map V.int))) (hat : at_ < row.length) (hm : X.mg "abs" = none) {A : Around} (hA : A.depth < recursionLimit)
    {h : Heap} {tk : Nat} (kp : ∀ b o, s.heap.get? b = some o → h.get? b = some o) :
    wpAny (model X.prog X.w) A (call (.ref f) [.ref a]) (PySem.W.KeyPure (.int (kAbs at_ row)) { s with heap := h, toks := tk }) (fun _ _ => False) { s with heap := h, toks := tk } := by
  obtain ⟨⟨oc, vs, t, hoc, hd, hv⟩, _, _⟩ := I.hok c' _ hc
  refine wpAny_call (PySem.W.kla_callFunE hA (kp _ _ hf) rfl rfl rfl rfl ⟨c', oc, vs, t, rfl, kp _ _ hoc, hd, hv⟩ ?_)
  rw [show bindArgs (PySem.W.kla_fn "<lambda>" (X.env.qual ++ "<lambda>") (lamP q) (lamB q1 q2 q3 q4 q5) lamSc (cloFrom X.env.cells lamSc.names []) pm (.ref c') ctv) ⟨[Value.ref a], []⟩ = pure [(("_law_row" : Str), Value.ref a)] from rfl]
  refine wpAny_pure (wpAny_newFunctionEnv (fun y hy => ?_) (fun y hy => ?_) (fun h₁ hns hsb => ⟨((I.mod.nolimit.keeps I.bk).keeps kp).fresh _ hsb, ?_⟩) rfl)
  · rcases List.mem_cons.mp hy with rfl | hy
    · exact fun z => nomatch z
    · rcases List.mem_cons.mp hy with rfl | hy
      · exact fun z => nomatch z
      · cases List.mem_singleton.mp hy
        exact fun z => nomatch z
  · cases List.mem_singleton.mp hy
    rfl
  · have k1 : ∀ b o, h.get? b = some o → h₁.get? b = some o := fun b o e => hsb.extBut b o (Nat.ne_of_lt (Heap.lt_size e)) (Heap.get?_push_of_some _ e)
    have k2 : ∀ b o, s.heap.get? b = some o → h₁.get? b = some o := fun b o e => k1 b o (kp b o e)
    refine PySem.W.kla_codeExpr ?_
    obtain ⟨mb, b1, b2⟩ := I.mod.blt
    have cl : (cloFrom X.env.cells lamSc.names []).lookup ("_law_at" : Str) = some ca := by
      show (cloFrom X.env.cells [("_law_row", .local), ("_law_at", .free), ("abs", .globalImplicit)] []).lookup ("_law_at" : Str) = some ca
      simp [cloFrom, hca]
    refine wpAny_Call_Name_kw (Calls.Name_function_global rfl rfl (Calls.loadGlobal_builtin ((I.mod.glob.keeps I.bk).keeps k2) hm ((b1.keeps I.bk).keeps k2) ((b2 "abs" (by decide)).trans (show bootBuiltins "abs" = some (.builtin "abs") from rfl)) ?_) (by decide))
    obtain ⟨its, rv, ht, hz0⟩ := I.tuple (xs := row.map V.int) (.inl (.inl hrow))
    obtain ⟨jx, hj⟩ : ∃ x, row[at_]? = some x := ⟨_, List.getElem?_eq_getElem hat⟩
    obtain ⟨wv, ew, rw'⟩ := rv.get (i := at_) (x := .int jx) (by rw [List.getElem?_map, hj]; rfl)
    obtain ⟨tt, rfl⟩ := rw'
    have ht2 : IsTup h₁ a its.toArray := by
      obtain ⟨o, ho, c1, n1, d1⟩ := ht
      exact ⟨o, k2 _ _ ho, c1, n1, d1⟩
    have hcell2 : h₁.IsCell ca (some (.int (at_ : Int) t0)) := by
      obtain ⟨o, ho, hdt⟩ := hcell
      exact ⟨o, k2 _ _ ho, hdt⟩
    have hl : its.length = row.length := by rw [← rv.length, List.length_map]
    have hsz : its.length ≤ sizeLine := by rw [List.length_map] at hz0; omega
    have ek : kAbs at_ row = if jx < 0 then -jx else jx := by
      unfold kAbs
      rw [List.getD_eq_getElem?_getD, hj]
      rfl
    refine PyProof.Rows.callWith_builtin1 (Calls.spliced_cons (Subscript_ (wpAny_Name (wpAny_loadName_local rfl rfl hns rfl (wpAny_Name (wpAny_loadName_free rfl rfl cl hcell2 ?_) (by decide))) (by decide)))) rfl rfl
    refine subscriptTail_builtinR (x := .int jx tt) ht2.typeIs slot_tuple_getitem.lookup (getItem_tuple (j := at_) (Q := fun r s' => r = .int jx tt ∧ _) ht2 (by omega) (by rw [sizeLine_eq] at hsz; omega) ?_ (by simpa using ew) ⟨rfl, ?_⟩) rfl
    · rw [seqIndex_of (by omega) (by rw [List.size_toArray]; omega), Int.toNat_natCast]
    · refine Calls.spliced_nil (call_abs_int fun u tk2 => ?_)
      rw [ek]
      exact ⟨h₁, tk2, rfl, k1, .int _ _⟩
section
variable {X : Cx} {C : Ct} {ρ : List Sl} {pos : Pos}
/-- the heap has a new list, and more that is not told -/
theorem eachIs_of {H : Hp} {R : Value → List Int → Prop} : ∀ {us : List Value} {rows : List (List Int)} {vs : List V}, Vals vs us → DenAll C H vs (rows.map it) → (∀ u v r, RelV v u → Den C H v (it r) → r ∈ rows → R u r) → PySem.W.EachIs R us rows
  | _, [], _, rv, d, _ => by
    cases d
    cases rv
    exact .nil
  | _, r :: rows, _, rv, d, h => by
    cases d with
    | cons d1 d2 =>
      cases rv with
      | cons r1 r2 => exact .cons (h _ _ r r1 d1 (List.mem_cons_self ..)) (eachIs_of r2 d2 fun u v x a b c => h u v x a b (List.mem_cons_of_mem _ c))
theorem eachIs_back {H : Hp} : ∀ {us : List Value} {rows : List (List Int)}, PySem.W.EachIs (fun u r => ∃ a, u = .ref a ∧ H a = some (.tup (r.map V.int))) us rows → ∃ vs, Vals vs us ∧ DenAll C H vs (rows.map it)
  | _, [], h => by
    cases h
    exact ⟨[], .nil, .nil⟩
  | _, r :: rows, h => by
    cases h with
    | cons h1 h2 =>
      obtain ⟨a, rfl, ha⟩ := h1
      obtain ⟨vs, q1, q2⟩ := eachIs_back h2
      exact ⟨.ref a :: vs, .cons rfl q1, .cons (.tup ha (DenAll.of_ints r)) q2⟩
theorem kAbs_le (at_ : Nat) (a b : List Int) : decide (kAbs at_ a ≤ kAbs at_ b) = decide ((a.getD at_ 0).natAbs ≤ (b.getD at_ 0).natAbs) := by
  refine decide_eq_decide.mpr ?_
  unfold kAbs
  split <;> split <;> omega
theorem OwnAt.keep {H0 H H2 : Hp} (s : ∀ a o, H a = some o → (∀ ps, o ≠ .tbl ps) → H2 a = some o) {p : Addr} : ∀ {b : OB}, OwnAt C H0 H p b → OwnAt C H0 H2 p b
  | .lst _, ⟨vs, h, d⟩ => ⟨vs, s _ _ h (fun _ z => nomatch z), d⟩
  | .dic _, ⟨kvs, h, k, d⟩ => ⟨kvs, s _ _ h (fun _ z => nomatch z), k, d⟩
  | .ins _ dx _, ⟨us, n, hd, h, d⟩ => by
    rcases h with ⟨h1, h2, h3⟩ | ⟨h1, h2⟩
    · exact ⟨us, n, hd, .inl ⟨s _ _ h1 (fun _ z => nomatch z), h2, s _ _ h3 (fun _ z => nomatch z)⟩, d⟩
    · exact ⟨us, n, hd, .inr ⟨s _ _ h1 (fun _ z => nomatch z), s _ _ h2 (fun _ z => nomatch z)⟩, d⟩
  | .lk _ _ _ _, ⟨g, h, k, d⟩ => ⟨g, s _ _ h (fun _ z => nomatch z), k, d⟩
/-- the table at P has grown, or not -/
theorem Sat.table {β : Bs} {σ : L2.St} {H0 H H2 : Hp} {P : Addr} {q : Str} (V : Sat C β σ H0 H ρ) (eT : β.T = [(P, q)]) (sty : ∀ b o, b ≠ P → H b = some o → H2 b = some o) (tab : LamX.TabS H2 P q) : Sat C β σ H0 H2 ρ := by
  have t0 := V.tb.1 (P, q) (by rw [eT]; exact List.mem_singleton.mpr rfl)
  have borP : β.bor P := V.tb.2 (P, q) (by rw [eT]; exact List.mem_singleton.mpr rfl)
  have key : ∀ a o, H a = some o → (∀ ps, o ≠ .tbl ps) → H2 a = some o := fun a o h n => sty a o (fun z => by
    obtain ⟨ps, h1, _⟩ := t0
    rw [z, h1] at h
    cases h
    exact n _ rfl) h
  refine ⟨V.exb, fun a o e => sty a o (fun z => ?_) (V.ex a o e), fun a h1 h2 h3 => ?_, fun a ha => ⟨?_, (V.bo a ha).2⟩, V.bE, V.len, V.va, fun i b h => ?_, V.sep, ⟨fun x hx => ?_, V.tb.2⟩, V.tk⟩
  · have z2 := (V.bo P borP).2
    rw [z, z2] at e
    cases e
  · obtain ⟨q1, q2⟩ := V.out a h1 h2 h3
    refine ⟨q1, ?_⟩
    cases e : β.E a with
    | none => exact absurd e h1
    | some o => exact sty a o (fun z => h3 (by rw [z]; exact borP)) (by rw [q2]; exact e)
  · by_cases z : a = P
    · obtain ⟨ps, h1, _⟩ := tab
      rw [z, h1]
      exact fun z => nomatch z
    · cases e : H a with
      | none => exact absurd e (V.bo a ha).1
      | some o =>
        rw [sty a o z e]
        exact fun z => nomatch z
  · obtain ⟨p, h1, h2, h3, h4⟩ := V.ow i b h
    exact ⟨p, h1, h2, h3.keep key, h4⟩
  · rw [eT] at hx
    cases List.mem_singleton.mp hx
    exact tab
theorem e_sortK (i j l : Nat) {c P : Addr} {rows : List (List Int)} {at_ : Nat} {q q1 q2 q3 q4 q5 q6 q7 q8 q9 : Pos} (TB : LamX.TabB X.base X.mg c P) (hcode : X.env.code = .ref c) (hρ : ρ[i]? = some (.va (.lst (rows.map it)))) (hat : ρ[j]? = some (.va (.int (at_ : Int))))
    (htk : ρ[l]? = some (.tk [(P, X.env.qual ++ "<lambda>")])) (hN : X.N[i]? = some ("_law_own" : Str)) (hN2 : X.N[j]? = some ("_law_at" : Str)) (hv : Vis X.env.scope ("_law_own" : Str)) (hcl : X.env.scope.names.lookup ("_law_at" : Str) = some .cell)
    (hr : Room 1 X.A) (hrow : ∀ r ∈ rows, at_ < r.length) (hm : X.mg "sorted" = none) (hm2 : X.mg "abs" = none) (hl : rows.length ≤ 1000) (hg : Gl X "sorted" := by rfl) :
    EB C X (.Call (.Name "sorted" q6) [.Name "_law_own" q7] [⟨some "key", .Lambda (lamP q) (lamB q1 q2 q3 q4 q5) lamSc q8, q9⟩] pos) ρ (.lst ((rows.mergeSort fun a b => decide ((a.getD at_ 0).natAbs ≤ (b.getD at_ 0).natAbs)).map it)) ρ := by
  refine ⟨fun pins s σ H Q I h => ?_⟩
  obtain ⟨β, H0, V, kq⟩ := h
  refine wpAny_Call_Name_kw (ld_blt I hg hm (show bootBuiltins "sorted" = some (.builtin "sorted") from rfl) ?_ (by decide) (by decide))
  refine PyProof.Rows.callWith_kw (Calls.spliced_cons (thn ((pe_var (i := i) hN hv (by decide) (by decide)).run pins s σ H (fun v H1 => σ[i]? = some (some v) ∧ H1 = H) I ?_) fun u s1 ⟨v, H1, I1, r1, q1⟩ => Calls.spliced_nil ?_)) rfl rfl rfl rfl
  · obtain ⟨v, h1, h2⟩ := V.va i _ hρ
    exact ⟨v, h1, h1, rfl⟩
  · obtain ⟨sv, rfl⟩ := q1
    obtain ⟨v', h1, d1⟩ := V.va i _ hρ
    rw [sv] at h1
    cases h1
    have eT := V.tk l _ htk
    have tabs := V.tb.1 (P, X.env.qual ++ "<lambda>") (by rw [eT]; exact List.mem_singleton.mpr rfl)
    have borP := V.tb.2 (P, X.env.qual ++ "<lambda>") (by rw [eT]; exact List.mem_singleton.mpr rfl)
    obtain ⟨hPn, hP0⟩ := V.bo P borP
    have free : ∀ y ∈ lamSc.names, y.2 = .free → ∃ c, X.env.cells.lookup y.1 = some c := fun y hy e => by
      rcases List.mem_cons.mp hy with rfl | hy
      · cases e
      · rcases List.mem_cons.mp hy with rfl | hy
        · exact I1.ok.has _ (.inl hcl)
        · cases List.mem_singleton.mp hy
          cases e
    refine PyProof.Rows.kws_cons (lam_new I1 TB hcode tabs rfl free fun f c' pm ctv H2 s2 I2 oth nP sty tab2 hof hfn hco => PyProof.Rows.kws_nil ?_)
    have V2 := V.table eT sty tab2
    obtain ⟨ca, hca⟩ := I2.ok.has ("_law_at" : Str) (.inl hcl)
    obtain ⟨wv, w1, w2⟩ := V.va j _ hat
    cases w2
    obtain ⟨m, hn, hlk⟩ := I2.loc
    obtain ⟨ua, ra, la⟩ := hlk j _ _ hN2 w1 (.inr (.inl hcl))
    obtain ⟨t0, rfl⟩ := ra
    have hcell : s2.heap.IsCell ca (some (.int (at_ : Int) t0)) := by
      rcases la with ⟨k1, _⟩ | ⟨_, c1, e1, e2⟩
      · have k1 : X.env.scope.names.lookup ("_law_at" : Str) = some .local := k1
        rw [hcl] at k1
        cases k1
      · rw [hca] at e1
        cases e1
        exact e2
    cases d1 with
    | @lst a xs bs hx dx =>
      cases r1
      obtain ⟨its, rv, pl, hz⟩ := I2.list (a := a) (xs := xs) (.inl (.inl (V2.ex _ _ hx)))
      have lx : xs.length = rows.length := by rw [dx.len, List.length_map]
      refine PySem.W.sorted_key_data (b := false) (R := fun u r => ∃ t, u = Value.ref t ∧ H0 t = some (.tup (r.map L2.V.int))) (bs := rows) (fun r => PyData.int (kAbs at_ r)) pl.isList (eachIs_of rv dx fun u v r r1 d1 _ => ?_) (PySem.W.AllAlike.of fun _ _ => by simp [PySem.W.alike]) (PySem.W.Sortable.others fun _ => ⟨(fun z => nomatch z), (fun _ z => nomatch z)⟩)
        (by rw [sizeLine_eq]; omega) (fun r _ => ?_) (PyProof.Rows.ksk_s1 _ _) (fun _ => PyProof.Rows.ksk_l1 _ _) (fun _ => PyProof.Rows.ksk_t1 _ _) (fun v r ⟨t, e, ht⟩ hr2 h tk kp => ?_) fun out c0 h' tk keeps fr hD len eo => ?_
      · cases d1 with
        | tup g r => exact ⟨_, r1, by rw [g, r.ints]⟩
      · have := hr.un
        have e : (PyData.int (kAbs at_ r)).depth = 0 := by simp [PyData.depth]
        rw [e]
        omega
      · subst e
        exact lam_key I2 hof hco hca hcell (V2.ex _ _ ht) (hrow r hr2) hm2 (by have := hr.dp; show X.A.depth < _; omega) kp
      · obtain ⟨vs2, v1, v2⟩ := eachIs_back (C := C) eo
        have hf : H2 (s2.heap.objs.size + 1) = none := I2.hok.fresh (Nat.le_succ _)
        have st := Stp.new (o := .lst vs2) V2.ex hf
        have hlen : vs2.length ≤ sizeLine := by rw [v2.len, List.length_map, List.length_mergeSort, sizeLine_eq]; omega
        refine ⟨.ref _, upd H2 (s2.heap.objs.size + 1) (.lst vs2), I2.laid (t' := tk) keeps (Nat.le_succ _) ⟨hlen, out, c0, v1, hD⟩, rfl, ?_⟩
        refine kq _ _ _ st.e0 (V2.stp st) ?_
        have e : (rows.mergeSort (PySem.W.dataLe false fun r => PyData.int (kAbs at_ r))) = rows.mergeSort fun a b => decide ((a.getD at_ 0).natAbs ≤ (b.getD at_ 0).natAbs) := by
          rw [PySem.W.dataLe_int]
          congr 1
          funext a b
          exact kAbs_le at_ a b
        rw [← e]
        exact .lst upd_same (v2.mono st.e0)
end
end Q
end

/-! text LayX -/
section
set_option Elab.async false
set_option linter.all false
set_option maxRecDepth 100000
/-! defs that may let a table of code objects grow -/
namespace Q
open PySem PySem.Spec PyProof.Rows L2
/-- a step that changes nothing that is there, but tables -/
structure StpT (T : List (Addr × Str)) (H0 H H0' H' : Hp) : Prop where
  e0 : Ex H0 H0'
  e1 : Ex H0' H'
  out : ∀ a, (∀ q ∈ T, a ≠ q.1) → H a ≠ none → H0 a = none → H0' a = none ∧ H' a = H a
  tb : LamX.Tabs T H'
  no : ∀ q ∈ T, H0' q.1 = none
section
variable {C : Ct} {β : Bs} {σ : L2.St} {H0 H H0' H' : Hp} {ρ : List Sl} {T : List (Addr × Str)}
theorem OwnAt.monoT (e : Ex H0 H0') (s : ∀ a o, H a = some o → (∀ ps, o ≠ .tbl ps) → H0 a = none → H0' a = none ∧ H' a = some o) {p : Addr} (hp : H0 p = none) : ∀ {b : OB}, OwnAt C H0 H p b → H0' p = none ∧ OwnAt C H0' H' p b
  | .lst _, ⟨vs, h, d⟩ => ⟨(s _ _ h (fun _ z => nomatch z) hp).1, vs, (s _ _ h (fun _ z => nomatch z) hp).2, d.mono e⟩
  | .dic _, ⟨kvs, h, k, d⟩ => ⟨(s _ _ h (fun _ z => nomatch z) hp).1, kvs, (s _ _ h (fun _ z => nomatch z) hp).2, k, d.mono e⟩
  | .ins _ dx _, ⟨us, n, hd, h, d⟩ => by
    rcases h with ⟨h1, h2, h3⟩ | ⟨h1, h2⟩
    · obtain ⟨q1, q2⟩ := s _ _ h3 (fun _ z => nomatch z) hd
      obtain ⟨q3, q4⟩ := s _ _ h1 (fun _ z => nomatch z) hp
      exact ⟨q3, us, n, q1, .inl ⟨q4, h2, q2⟩, d.mono e⟩
    · obtain ⟨q1, q2⟩ := s _ _ h2 (fun _ z => nomatch z) hd
      obtain ⟨q3, q4⟩ := s _ _ h1 (fun _ z => nomatch z) hp
      exact ⟨q3, us, n, q1, .inr ⟨q4, q2⟩, d.mono e⟩
  | .lk _ _ _ _, ⟨g, h, k, d⟩ => ⟨(s _ _ h (fun _ z => nomatch z) hp).1, g, (s _ _ h (fun _ z => nomatch z) hp).2, k, d.mono e⟩
theorem Sat.stpT (V : Sat C β σ H0 H ρ) (eT : β.T = T) (s : StpT T H0 H H0' H') : Sat C β σ H0' H' ρ := by
  have tab := V.tb.1
  have bor := V.tb.2
  rw [eT] at tab bor
  have key : ∀ a o, H a = some o → (∀ ps, o ≠ .tbl ps) → H0 a = none → H0' a = none ∧ H' a = some o := fun a o h n h0 => by
    obtain ⟨q1, q2⟩ := s.out a (fun q hq z => by
      obtain ⟨ps, h1, _⟩ := tab q hq
      rw [z, h1] at h
      cases h
      exact n _ rfl) (by rw [h]; exact fun z => nomatch z) h0
    exact ⟨q1, q2.trans h⟩
  refine ⟨V.exb.trans s.e0, s.e1, fun a h1 h2 h3 => ?_, fun a h => ?_, V.bE, V.len, fun i b h => ?_, fun i b h => ?_, V.sep, ⟨by rw [eT]; exact s.tb, V.tb.2⟩, V.tk⟩
  · obtain ⟨q1, q2⟩ := V.out a h1 h2 h3
    obtain ⟨r1, r2⟩ := s.out a (fun q hq z => h3 (by rw [z]; exact bor q hq)) (by rw [q2]; exact h1) q1
    exact ⟨r1, r2.trans q2⟩
  · obtain ⟨q1, q2⟩ := V.bo a h
    by_cases ha : ∃ q ∈ T, a = q.1
    · obtain ⟨q, hq, rfl⟩ := ha
      obtain ⟨ps, h1, _⟩ := s.tb q hq
      exact ⟨by rw [h1]; exact (fun z => nomatch z), s.no q hq⟩
    · obtain ⟨r1, r2⟩ := s.out a (fun q hq z => ha ⟨q, hq, z⟩) q1 q2
      exact ⟨by rw [r2]; exact q1, r1⟩
  · obtain ⟨v, h1, h2⟩ := V.va i b h
    exact ⟨v, h1, h2.mono s.e0⟩
  · obtain ⟨p, h1, h2, h3, h4⟩ := V.ow i b h
    obtain ⟨q1, q2⟩ := OwnAt.monoT s.e0 key h2 h3
    exact ⟨p, h1, q1, q2, h4⟩
end
/-- a pure def, but for tables -/
def spRT (C : Ct) (T : List (Addr × Str)) (R : List B → B → Prop) : Sp := fun vs H Q _ => ∃ H0 bs r, Ex H0 H ∧ DenAll C H0 vs bs ∧ LamX.Tabs T H ∧ (∀ q ∈ T, H0 q.1 = none) ∧ R bs r ∧ ∀ v H0' H', StpT T H0 H H0' H' → Den C H0' v r → Q v H'
/-- a def that changes the list it is given first, and tables -/
def spDT (C : Ct) (T : List (Addr × Str)) (R : List B → List B → B → List B → Prop) : Sp := fun vs H Q _ => ∃ H0 p vs' ds bs r ds', vs = .ref p :: vs' ∧ Ex H0 H ∧ H0 p = none ∧ OwnAt C H0 H p (.lst ds) ∧ DenAll C H0 vs' bs ∧ LamX.Tabs T H ∧ (∀ q ∈ T, H0 q.1 = none) ∧ R ds bs r ds' ∧
  ∀ v H0' H', Ex H0 H0' → Ex H0' H' → (∀ a, a ≠ p → (∀ q ∈ T, a ≠ q.1) → H a ≠ none → H0 a = none → H0' a = none ∧ H' a = H a) → LamX.Tabs T H' → (∀ q ∈ T, H0' q.1 = none) → H0' p = none → OwnAt C H0' H' p (.lst ds') → Den C H0' v r → Q v H'
section
variable {X : Cx} {C : Ct} {e a b c : Expr} {es : List Expr} {ρ ρ1 ρ2 ρ3 : List Sl} {x y z : B} {xs ys ds ds' : List B} {pos p : Pos} {rest : List Stmt} {post : Out → Prop} {T : List (Addr × Str)}
theorem e_callT (l : Nat) {n : Str} {p : Pos} {k : Nat} {R : List B → B → Prop} (D : Dn X.prog X.w X.K X.mg X.base n k (spRT C T R)) (hr : Room k X.A) (ha : AB C X (e :: es) ρ ys ρ1) (hR : R ys z) (htk : ρ1[l]? = some (.tk T)) (hg : Gl X n := by rfl) (hdb : (n == ("__debug__" : Str)) = false := by decide)
    (he : starEach (e :: es) X.env = (false, eval e X.env) :: starEach es X.env := by rfl) (hpl : (backTo pos (starEach es X.env)).any (·.1) = false := by rfl) : EB C X (.Call (.Name n p) (e :: es) [] pos) ρ z ρ1 := by
  obtain ⟨f, hm, hk, F⟩ := D.ex
  refine ⟨fun pins s σ H Q I h => ?_⟩
  refine wpAny_Call_Name_kw (ld_glob I hg hm ?_ hdb)
  obtain ⟨β, H0, V, q⟩ := h
  refine PySem.W.callWith_K (h₀ := X.base) I.ok.mod.kin hk (thn (ha.run pos pins s σ H (fun vs H1 => spRT C T R vs H1 Q E0) I ⟨β, H0, V, fun vs H1 H1' e1 V1 d1 => ?_⟩) fun us s1 ⟨vs, H1, I1, r, q⟩ => ⟨I1.kIn, ?_⟩) he hpl
  · have eT := V1.tk l _ htk
    have tb := V1.tb
    rw [eT] at tb
    exact ⟨H1, ys, z, V1.ex, d1, tb.1, fun q hq => (V1.bo _ (tb.2 q hq)).2, hR, fun v H2 H2' s d => q v H2 H2' (e1.trans s.e0) (V1.stpT eT s) d⟩
  · exact wpAny_call (run_fnR F hr pass0 I1 r q)
theorem Sat.chgT {β : Bs} {σ : L2.St} {H0 H H0' H' : Hp} {i : Nat} {p : Addr} (V : Sat C β σ H0 H ρ) (eT : β.T = T) (h : ρ[i]? = some (.ow (.lst ds))) (hp : σ[i]? = some (some (.ref p))) (e0 : Ex H0 H0') (e1 : Ex H0' H')
    (out : ∀ a, a ≠ p → (∀ q ∈ T, a ≠ q.1) → H a ≠ none → H0 a = none → H0' a = none ∧ H' a = H a) (tb : LamX.Tabs T H') (no : ∀ q ∈ T, H0' q.1 = none) (hp0 : H0' p = none) (n : OwnAt C H0' H' p (.lst ds')) : Sat C β σ H0' H' (ρ.set i (.ow (.lst ds'))) := by
  obtain ⟨q, h1, h2, ⟨vs, h3, d⟩, h4⟩ := V.ow i _ h
  rw [hp] at h1
  cases h1
  obtain ⟨ws, n1, n2⟩ := n
  have st : StpT T H0 H H0' (upd H' p (.lst vs)) := by
    refine ⟨e0, fun a o e => ?_, fun a g0 g1 g2 => ?_, tabs_upd tb n1 trivial, no⟩
    · rw [upd_ne (fun z => by rw [z, hp0] at e; cases e)]
      exact e1 a o e
    · by_cases ha : a = p
      · rw [ha]
        exact ⟨hp0, by rw [upd_same, h3]⟩
      · rw [upd_ne ha]
        exact out a ha g0 g1 g2
  have V1 := V.stpT eT st
  have V2 := V1.write (b' := .lst ds') (o := .lst ws) h hp ⟨ws, upd_same, n2⟩ upd_same trivial (fun z => z)
  have e : upd (upd H' p (.lst vs)) p (.lst ws) = H' := by
    funext a
    by_cases ha : a = p
    · rw [ha, upd_same, n1]
    · rw [upd_ne ha, upd_ne ha]
  rw [e] at V2
  exact V2
theorem e_callDT (i l : Nat) {n m : Str} {p p' : Pos} {k : Nat} {R : List B → List B → B → List B → Prop} (D : Dn X.prog X.w X.K X.mg X.base n k (spDT C T R)) (hr : Room k X.A) (ha : AB C X es ρ ys ρ) (hR : R ds ys z ds') (htk : ρ[l]? = some (.tk T)) (hρ : ρ[i]? = some (.ow (.lst ds)) := by rfl) (hN : X.N[i]? = some m := by rfl)
    (hv : Vis X.env.scope m := by first | exact Or.inl rfl | exact Or.inr (Or.inl rfl) | exact Or.inr (Or.inr rfl)) (hd : (m == ("__debug__" : Str)) = false := by decide) (hcd : (m == ("__classdict__" : Str)) = false := by decide)
    (hg : Gl X n := by rfl) (hdb : (n == ("__debug__" : Str)) = false := by decide)
    (he : starEach (.Name m p' :: es) X.env = (false, eval (.Name m p') X.env) :: starEach es X.env := by rfl) (hpl : (backTo pos (starEach es X.env)).any (·.1) = false := by rfl) : EB C X (.Call (.Name n p) (.Name m p' :: es) [] pos) ρ z (ρ.set i (.ow (.lst ds'))) := by
  obtain ⟨f, hm, hk, F⟩ := D.ex
  refine ⟨fun pins s σ H Q I h => ?_⟩
  refine wpAny_Call_Name_kw (ld_glob I hg hm ?_ hdb)
  obtain ⟨β, H0, V, q⟩ := h
  have hra := L2.pa_cons (pe_var (pos := p') hN hv hd hcd) ha he
  refine PySem.W.callWith_K (h₀ := X.base) I.ok.mod.kin hk (thn (hra.run pos pins s σ H (fun vs H1 => spDT C T R vs H1 Q E0) I ?_) fun us s1 ⟨vs, H1, I1, r, q⟩ => ⟨I1.kIn, ?_⟩) he hpl
  · obtain ⟨q0, h1, h2, h3, h4⟩ := V.ow i _ hρ
    refine ⟨_, h1, β, H0, V, fun vs H1 H1' e1 V1 d1 => ?_⟩
    obtain ⟨q1, g1, g2, g3, g4⟩ := V1.ow i _ hρ
    rw [h1] at g1
    cases g1
    have eT := V1.tk l _ htk
    have tb := V1.tb
    rw [eT] at tb
    exact ⟨H1, q0, vs, ds, ys, z, ds', rfl, V1.ex, g2, g3, d1, tb.1, fun q hq => (V1.bo _ (tb.2 q hq)).2, hR, fun v H2 H2' e2 e3 out t2 no p0 n dz => q v H2 H2' (e1.trans e2) (V1.chgT eT hρ h1 e2 e3 out t2 no p0 n) dz⟩
  · exact wpAny_call (run_fnR F hr pass0 I1 r q)
end
/-! ### the rules of such defs; the last name of N is none of the def's -/
def slotsT (n : Nat) (bs : List B) (T : List (Addr × Str)) : List Sl := (bs.map Sl.va ++ List.replicate (n - (bs.length + 1)) .un) ++ [.tk T]
def slotsDT (n : Nat) (ds bs : List B) (T : List (Addr × Str)) : List Sl := .ow (.lst ds) :: slotsT (n - 1) bs T
section
variable {P : Program} {w : World} {K : PySem.W.Frag} {mg : Str → Option Value} {base : Heap} {C : Ct} {T : List (Addr × Str)}
theorem slT_va {n : Nat} {bs : List B} {i : Nat} {b : B} (h : (slotsT n bs T)[i]? = some (.va b)) : bs[i]? = some b := by
  unfold slotsT at h
  by_cases hi : i < bs.length
  · rw [List.append_assoc, List.getElem?_append_left (by simpa using hi), List.getElem?_map] at h
    cases e : bs[i]? with
    | none => rw [e] at h; cases h
    | some c =>
      rw [e] at h
      cases Option.some.inj h
      rfl
  · rw [List.append_assoc, List.getElem?_append_right (by simpa using hi)] at h
    by_cases h2 : i - bs.length < n - (bs.length + 1)
    · rw [List.getElem?_append_left (by simpa using h2), List.getElem?_replicate] at h
      split at h <;> cases h
    · rw [List.getElem?_append_right (by simpa using h2)] at h
      cases e : i - (bs.map Sl.va).length - (List.replicate (n - (bs.length + 1)) Sl.un).length with
      | zero => rw [e] at h; cases h
      | succ m => rw [e] at h; simp at h
theorem slT_ow {n : Nat} {bs : List B} {i : Nat} {b : OB} (h : (slotsT n bs T)[i]? = some (.ow b)) : False := by
  unfold slotsT at h
  have := List.mem_of_getElem? h
  simp at this
theorem slT_tk {n : Nat} {bs : List B} {i : Nat} {T' : List (Addr × Str)} (h : (slotsT n bs T)[i]? = some (.tk T')) : T' = T := by
  unfold slotsT at h
  have := List.mem_of_getElem? h
  simp at this
  exact this
theorem slT_len {n : Nat} {bs : List B} (h : bs.length + 1 ≤ n) : (slotsT n bs T).length = n := by
  unfold slotsT
  simp
  omega
theorem start_at {N : List Str} {vs : List V} {i : Nat} {v : V} (h : vs[i]? = some v) : (L2.start N vs)[i]? = some (some v) := by
  have hi := (List.getElem?_eq_some_iff.mp h).1
  unfold L2.start
  rw [List.getElem?_append_left (by simpa using hi), List.getElem?_map, h]
  rfl
theorem sat_startT {N : List Str} {vs : List V} {bs : List B} {H0 H : Hp} (e : Ex H0 H) (d : DenAll C H0 vs bs) (hl : bs.length + 1 ≤ N.length) (tb : LamX.Tabs T H) (no : ∀ q ∈ T, H0 q.1 = none) :
    Sat C ⟨H0, H, fun a => ∃ q ∈ T, a = q.1, T⟩ (L2.start N vs) H0 H (slotsT N.length bs T) where
  exb := Evl.Ex.refl _
  ex := e
  out := fun a _ h _ => ⟨h, rfl⟩
  bo := fun a h => by
    obtain ⟨q, hq, rfl⟩ := h
    obtain ⟨ps, h1, _⟩ := tb q hq
    exact ⟨by rw [h1]; exact (fun z => nomatch z), no q hq⟩
  bE := fun a h => by
    obtain ⟨q, hq, rfl⟩ := h
    obtain ⟨ps, h1, _⟩ := tb q hq
    show H q.1 ≠ none
    rw [h1]
    exact fun z => nomatch z
  len := by rw [slT_len hl]; unfold L2.start; simp [d.len]; omega
  va := fun i b h => by
    obtain ⟨v, h1, h2⟩ := d.get (slT_va h)
    exact ⟨v, start_at h1, h2⟩
  ow := fun i b h => (slT_ow h).elim
  sep := fun i j bi bj p h => (slT_ow h).elim
  tb := ⟨tb, fun q hq => ⟨q, hq, rfl⟩⟩
  tk := fun i T' h => (slT_tk h).symm
theorem stpT_of {σ : L2.St} {H0 H G G' : Hp} {ρ : List Sl} (g : Ex H0 G) (W : Sat C ⟨H0, H, fun a => ∃ q ∈ T, a = q.1, T⟩ σ G G' ρ) : StpT T H0 H G G' :=
  ⟨g, W.ex, fun a n h1 h2 => W.out a h1 h2 (fun ⟨q, hq, e⟩ => n q hq e), W.tb.1, fun q hq => (W.bo q.1 ⟨q, hq, rfl⟩).2⟩
theorem defT_ok {x qual : Str} {st : Stmt} {f : Addr} {fd : FuncData} {N ps : List Str} {k : Nat} {R : List B → B → Prop} {Pc : Value → Prop} (F : Fun K x qual st f fd) (hPc : Pc fd.code) (S : FnScope N ps (defScope st)) (hb : Binds K fd ps []) (hN : ps.length + 1 ≤ N.length) (len : ∀ bs r, R bs r → bs.length = ps.length)
    (hbody : ∀ (cdv : Value) (A : Around) (outer : List PySem.Env) (s : Shared) (H : Hp) (E : XK) (bs : List B) (r : B), Pc cdv → Room k (A.deeper (envOfC qual (defScope st) s.heap.objs.size f cdv)) → R bs r →
      SB C (cxOf CX0 P w K mg base N qual (defScope st) f cdv A outer s H E).nox (defBody st) (slotsT N.length bs T) (endO r)) : FnR P w K mg base CX0 (k + 1) f (spRT C T R) := by
  have G : FnOk P w K mg base CX0 (k + 1) f fd ps (spRT C T R) := by
    obtain ⟨oc, od, kV, doc, pm, an, cdv, ct, osl, rfl, lk, hcd⟩ := F.ex
    refine fn_of lk hcd S (fun vs H Q E h => ?_) fun A outer s H vs Q E hr h => ?_
    · obtain ⟨H0, bs, r, _, d, _, _, hR, _⟩ := h
      rw [d.len]
      exact len bs r hR
    · obtain ⟨H0, bs, r, e, d, tb, no, hR, q⟩ := h
      refine ⟨_, (hbody cdv A outer s H E bs r hPc hr hR).nox, _, H0, sat_startT e d (by rw [len bs r hR]; exact hN) tb no, ?_, ?_, ?_, ?_, ?_⟩
      · intro ρ' p σ' G G' g W
        have er : r = .non := p
        subst er
        exact q .non G G' (stpT_of g W) .non
      · intro b ρ' p v σ' G G' g W dv
        have er : b = r := p
        subst er
        exact q v G G' (stpT_of g W) dv
      · intro ρ' p
        exact p.elim
      · intro ρ' p
        exact p.elim
      · intro bs ρ' p
        exact p.elim
  have z := G.raw hb .nil
  simp only [List.append_nil] at z
  exact z
theorem sat_startDT {N : List Str} {vs : List V} {ds bs : List B} {H0 H : Hp} {p : Addr} (e : Ex H0 H) (d : DenAll C H0 vs bs) (hp : H0 p = none) (o : OwnAt C H0 H p (.lst ds)) (hl : bs.length + 2 ≤ N.length) (tb : LamX.Tabs T H) (no : ∀ q ∈ T, H0 q.1 = none) :
    Sat C ⟨H0, H, fun a => a = p ∨ ∃ q ∈ T, a = q.1, T⟩ (L2.start N (.ref p :: vs)) H0 H (slotsDT N.length ds bs T) where
  exb := Evl.Ex.refl _
  ex := e
  out := fun a _ h _ => ⟨h, rfl⟩
  bo := fun a h => by
    rcases h with rfl | ⟨q, hq, rfl⟩
    · exact ⟨o.there, hp⟩
    · obtain ⟨ps, h1, _⟩ := tb q hq
      exact ⟨by rw [h1]; exact (fun z => nomatch z), no q hq⟩
  bE := fun a h => by
    rcases h with rfl | ⟨q, hq, rfl⟩
    · exact o.there
    · obtain ⟨ps, h1, _⟩ := tb q hq
      show H q.1 ≠ none
      rw [h1]
      exact fun z => nomatch z
  len := by
    unfold slotsDT
    rw [List.length_cons, slT_len (by omega)]
    unfold L2.start
    simp [d.len]
    omega
  va := fun i b h => by
    cases i with
    | zero => cases Option.some.inj h
    | succ i =>
      obtain ⟨v, h1, h2⟩ := d.get (slT_va (i := i) h)
      exact ⟨v, start_at (i := i + 1) h1, h2⟩
  ow := fun i b h => by
    cases i with
    | zero =>
      cases Option.some.inj h
      exact ⟨p, start_at (i := 0) rfl, hp, o, .inr ⟨rfl, .inl rfl⟩⟩
    | succ i => exact (slT_ow (i := i) h).elim
  sep := fun i j bi bj q h1 h2 _ _ => by
    have g : ∀ (i : Nat) (b : OB), (slotsDT N.length ds bs T)[i]? = some (.ow b) → i = 0 := fun i b h => by
      cases i with
      | zero => rfl
      | succ i => exact (slT_ow (i := i) h).elim
    rw [g i bi h1, g j bj h2]
  tb := ⟨tb, fun q hq => .inr ⟨q, hq, rfl⟩⟩
  tk := fun i T' h => by
    cases i with
    | zero => cases Option.some.inj h
    | succ i => exact (slT_tk (i := i) h).symm
theorem sat_endDT {σ : L2.St} {H0 H G G' : Hp} {p : Addr} {ρ : List Sl} {ds' : List B} (W : Sat C ⟨H0, H, fun a => a = p ∨ ∃ q ∈ T, a = q.1, T⟩ σ G G' ρ) (h : ρ[0]? = some (.ow (.lst ds'))) (hE : H p ≠ none) :
    (∀ a, a ≠ p → (∀ q ∈ T, a ≠ q.1) → H a ≠ none → H0 a = none → G a = none ∧ G' a = H a) ∧ LamX.Tabs T G' ∧ (∀ q ∈ T, G q.1 = none) ∧ G p = none ∧ OwnAt C G G' p (.lst ds') := by
  obtain ⟨q, h1, h2, h3, h4⟩ := W.ow 0 _ h
  have eq : q = p := by
    rcases h4 with z | ⟨_, z⟩
    · exact absurd rfl z.2
    · rcases z with z | ⟨x, hx, z⟩
      · exact z
      · obtain ⟨vs, g, _⟩ := h3
        obtain ⟨ps, g2, _⟩ := W.tb.1 x hx
        rw [z, g2] at g
        cases g
  subst eq
  exact ⟨fun a n n2 g1 g2 => W.out a g1 g2 (fun z => z.elim n fun ⟨x, hx, e⟩ => n2 x hx e), W.tb.1, fun x hx => (W.bo x.1 (.inr ⟨x, hx, rfl⟩)).2, (W.bo q (.inl rfl)).2, h3⟩
theorem defDT_ok {x qual pn : Str} {st : Stmt} {f : Addr} {fd : FuncData} {N ps : List Str} {k : Nat} {R : List B → List B → B → List B → Prop} (F : Fun K x qual st f fd) (S : FnScope N (pn :: ps) (defScope st)) (hb : Binds K fd (pn :: ps) []) (hN : ps.length + 2 ≤ N.length) (len : ∀ ds bs r ds', R ds bs r ds' → bs.length = ps.length)
    (hbody : ∀ (cdv : Value) (A : Around) (outer : List PySem.Env) (s : Shared) (H : Hp) (E : XK) (ds bs : List B) (r : B) (ds' : List B), Room k (A.deeper (envOfC qual (defScope st) s.heap.objs.size f cdv)) → R ds bs r ds' →
      SB C (cxOf CX0 P w K mg base N qual (defScope st) f cdv A outer s H E).nox (defBody st) (slotsDT N.length ds bs T) (endD r ds')) : FnR P w K mg base CX0 (k + 1) f (spDT C T R) := by
  have G : FnOk P w K mg base CX0 (k + 1) f fd (pn :: ps) (spDT C T R) := by
    refine F.ok S (fun vs H Q E h => ?_) (fun cdv A outer s H vs Q E hr h => ?_)
    · obtain ⟨H0, p, vs', ds, bs, r, ds', rfl, _, _, _, d, _, _, hR, _⟩ := h
      rw [List.length_cons, List.length_cons, d.len, len ds bs r ds' hR]
    · obtain ⟨H0, p, vs', ds, bs, r, ds', rfl, e, hp, o, d, tb, no, hR, q⟩ := h
      refine ⟨_, hbody cdv A outer s H E ds bs r ds' hr hR, _, H0, sat_startDT e d hp o (by rw [len ds bs r ds' hR]; exact hN) tb no, ?_, ?_, ?_, ?_, ?_⟩
      · intro ρ' pe σ' G G' g W
        obtain ⟨rfl, h0⟩ := pe
        obtain ⟨z1, z2, z3, z4, z5⟩ := sat_endDT W h0 o.there
        exact q .non G G' g W.ex z1 z2 z3 z4 z5 .non
      · intro b ρ' pe v σ' G G' g W dv
        obtain ⟨rfl, h0⟩ := pe
        obtain ⟨z1, z2, z3, z4, z5⟩ := sat_endDT W h0 o.there
        exact q v G G' g W.ex z1 z2 z3 z4 z5 dv
      · intro ρ' p
        exact p.elim
      · intro ρ' p
        exact p.elim
      · intro bs ρ' p
        exact p.elim
  have z := G.raw hb .nil
  simp only [List.append_nil] at z
  exact z
end
end Q
end

/-! text WBase -/
section
set_option Elab.async false
set_option linter.all false
set_option maxRecDepth 100000
/-! the text's defs and classes, what the module gives -/
namespace Q
open PySem PySem.Spec PyProof.Rows L2
/-- the built-in names that the text has not taken, its numbers -/
structure Bi (mg : Str → Option Value) : Prop where
  zip : mg "zip" = none
  enum : mg "enumerate" = none
  range : mg "range" = none
  len : mg "len" = none
  isi : mg "isinstance" = none
  int : mg "int" = none
  bool : mg "bool" = none
  abs : mg "abs" = none
  max : mg "max" = none
  min : mg "min" = none
  list : mg "list" = none
  tuple : mg "tuple" = none
  sorted : mg "sorted" = none
  str : mg "str" = none
  all : mg "all" = none
  any : mg "any" = none
  iter : mg "iter" = none
  great : ∃ t, mg "GREAT" = some (.int (10 ^ 60) t)
  mof : ∃ t, mg "MOST_ORDER_frames" = some (.int 60 t)
  mr : ∃ t, mg "MAX_RANK" = some (.int 8 t)
  moi : ∃ t, mg "MOST_ORDER_ideals" = some (.int 60 t)
theorem bits_small {i : Int} (h : -(2 ^ 62) ≤ i ∧ i ≤ 2 ^ 62) : (Builtin.Int.intBits i : Int) ≤ 64 := by
  have := intBits_le_64 (k := i) (by omega) (by omega)
  omega
theorem cmul_small {i j : Int} (h1 : -(2 ^ 62) ≤ i ∧ i ≤ 2 ^ 62) (h2 : -(2 ^ 62) ≤ j ∧ j ≤ 2 ^ 62) : CMulX i j := by
  have a := bits_small h1
  have b := bits_small h2
  show _ ≤ _
  omega
end Q
end

/-! text W2 -/
section
set_option Elab.async false
set_option linter.all false
set_option maxRecDepth 100000
/-! numbers: is_whole, is_integer, common_of, powers_in, divisors_in, units_list -/
namespace Q
open PySem PySem.Spec PyProof.Rows L2
abbrev st_is_whole : Stmt := top 11
theorem sc_is_whole : FnScope ["value"] ["value"] (defScope st_is_whole) := ⟨rfl, rfl, rfl, by decide +kernel, rfl, by decide +kernel, by decide +kernel⟩
def isInt : B → Bool
  | .int _ => true
  | _ => false
def R_is_whole (bs : List B) (r : B) : Prop := ∃ x t, bs = [x] ∧ tyB x = some t ∧ r = .bl (isInt x)
abbrev st_is_integer : Stmt := top 12
theorem sc_is_integer : FnScope ["value"] ["value"] (defScope st_is_integer) := ⟨rfl, rfl, rfl, by decide +kernel, rfl, by decide +kernel, by decide +kernel⟩
def isInteger : B → Bool
  | .int i => decide (-(10 ^ 60) < i) && decide (i < 10 ^ 60)
  | _ => false
def R_is_integer (bs : List B) (r : B) : Prop := ∃ x t, bs = [x] ∧ tyB x = some t ∧ r = .bl (isInteger x)
section
variable {P : Program} {w : World} {K : PySem.W.Frag} {mg : Str → Option Value} {base : Heap} {C : Ct}
theorem ok_is_whole {f : Addr} {fd : FuncData} (F : Fun K "is_whole" "is_whole" st_is_whole f fd) (T : Bi mg) (hb : Binds K fd ["value"] []) : FnR P w K mg base CX0 1 f (spR C R_is_whole) := by
  refine def_ok F sc_is_whole hb (fun bs r h => ?_) (fun cdv A outer s H E bs r hr h => ?_)
  · obtain ⟨x, t, rfl, _⟩ := h
    rfl
  · obtain ⟨x, t, rfl, ht, rfl⟩ := h
    have key : ∃ k1 k2, kitB t "int" = some k1 ∧ kitB t "bool" = some k2 ∧ (k1 && !k2) = isInt x := by
      cases x <;> first | (cases ht; done) | (cases Option.some.inj ht; first | exact ⟨true, false, by decide +kernel, by decide +kernel, rfl⟩ | exact ⟨true, true, by decide +kernel, by decide +kernel, rfl⟩ | exact ⟨false, false, by decide +kernel, by decide +kernel, rfl⟩)
    obtain ⟨k1, k2, h1, h2, h3⟩ := key
    refine q_ret (e_and (k := k1) (l := !k2) (e_isi T.isi (e_var 0) (e_ty "int" T.int (by decide +kernel)) ht h1) (fun _ => e_one (e_not (e_isi T.isi (e_var 0) (e_ty "bool" T.bool (by decide +kernel)) ht h2))) (fun _ => rfl)) ?_
    rw [h3]
    rfl
theorem ok_is_integer {f : Addr} {fd : FuncData} (F : Fun K "is_integer" "is_integer" st_is_integer f fd) (T : Bi mg) (D : Dn P w K mg base "is_whole" 1 (spR C R_is_whole)) (hb : Binds K fd ["value"] []) : FnR P w K mg base CX0 2 f (spR C R_is_integer) := by
  refine def_ok F sc_is_integer hb (fun bs r h => ?_) (fun cdv A outer s H E bs r hr h => ?_)
  · obtain ⟨x, t, rfl, _⟩ := h
    rfl
  · obtain ⟨x, t, rfl, ht, rfl⟩ := h
    obtain ⟨tg, hg⟩ := T.great
    by_cases hx : ∃ i, x = .int i
    · obtain ⟨i, rfl⟩ := hx
      exact q_ret (e_and (k := true) (l := isInteger (.int i)) (e_call (R := R_is_whole) D hr (a_cons (e_var 0) a_nil) ⟨_, t, rfl, ht, rfl⟩) (fun _ => e_one (e_chain (g := fun i j => decide (i < j)) (g' := fun i j => decide (i < j)) op_lt op_lt (e_neg (e_gint hg)) (e_var 0) (e_gint hg))) (fun z => nomatch z)) rfl
    · have n : isInt x = false := by cases x <;> first | rfl | exact absurd ⟨_, rfl⟩ hx
      have n2 : isInteger x = false := by cases x <;> first | rfl | exact absurd ⟨_, rfl⟩ hx
      rw [n2]
      exact q_ret (e_and (k := false) (l := false) (e_call (R := R_is_whole) D hr (a_cons (e_var 0) a_nil) ⟨_, t, rfl, ht, by rw [n]⟩) (fun z => nomatch z) (fun _ => rfl)) rfl
end
end Q
end

/-! text W3 -/
section
set_option Elab.async false
set_option linter.all false
set_option maxRecDepth 100000
/-! common_of, units_list, powers_in, divisors_in -/
namespace Q
open PySem PySem.Spec PyProof.Rows L2
/-! ### tables -/
def kG {α : Type} (f : α → B) (kbs : List (Int × α)) : List (Int × B) := kbs.map fun q => (q.1, f q.2)
def getG {α : Type} (kbs : List (Int × α)) (k : Int) : Option α := (kbs.find? fun q => decide (q.1 = k)).map (·.2)
def putG {α : Type} (kbs : List (Int × α)) (k : Int) (x : α) : List (Int × α) := if kbs.any fun q => decide (q.1 = k) then kbs.map fun q => if q.1 = k then (q.1, x) else q else kbs ++ [(k, x)]
theorem dget_kG {α : Type} (f : α → B) (k : Int) : ∀ kbs : List (Int × α), dget (kG f kbs) k = (getG kbs k).map f
  | [] => rfl
  | (k', x) :: r => by
    have ih := dget_kG f k r
    by_cases h : k' = k
    · simp [dget, getG, kG, List.find?_cons, h]
    · simp only [dget, getG, kG, List.map_cons, List.find?_cons, h, decide_false] at ih ⊢
      exact ih
theorem any_kG {α : Type} (f : α → B) (k : Int) (kbs : List (Int × α)) : ((kG f kbs).any fun q => decide (q.1 = k)) = kbs.any fun q => decide (q.1 = k) := by
  unfold kG
  rw [List.any_map]
  rfl
theorem dput_kG {α : Type} (f : α → B) (k : Int) (x : α) (kbs : List (Int × α)) : dput (kG f kbs) k (f x) = kG f (putG kbs k x) := by
  unfold dput putG
  rw [any_kG]
  split
  · unfold kG
    rw [List.map_map, List.map_map]
    refine List.map_congr_left fun q _ => ?_
    simp only [Function.comp]
    split <;> rfl
  · unfold kG
    rw [List.map_append]
    rfl
theorem kG_len {α : Type} (f : α → B) (kbs : List (Int × α)) : (kG f kbs).length = kbs.length := List.length_map ..

/-! ### common_of, units_list -/
abbrev st_common_of : Stmt := top 14
theorem sc_common_of : FnScope ["one", "other"] ["one", "other"] (defScope st_common_of) := ⟨rfl, rfl, rfl, by decide +kernel, rfl, by decide +kernel, by decide +kernel⟩
def gcC (s : Int × Int) : Option Bool := some (!decide (s.2 = 0))
def gcF (s : Int × Int) : Option (Int × Int) := some (s.2, s.1.fmod s.2)
def gcM (a b : Int) : Option Int := (wloop gcC gcF 60 (a, b)).map fun s => if s.1 < 0 then -s.1 else s.1
def R_common_of (bs : List B) (r : B) : Prop := ∃ a b g, bs = [.int a, .int b] ∧ gcM a b = some g ∧ r = .int g
abbrev st_units_list : Stmt := top 16
theorem sc_units_list : FnScope ["modulus", "unit"] ["modulus"] (defScope st_units_list) := ⟨rfl, rfl, rfl, by decide +kernel, rfl, by decide +kernel, by decide +kernel⟩
def unitsM (n : Nat) : List Int := ((List.range n).filter fun (u : Nat) => gcM (0 + (u : Int)) n == some 1).map fun (u : Nat) => 0 + (u : Int)
def R_units_list (bs : List B) (r : B) : Prop := ∃ n : Nat, bs = [.int n] ∧ n ≤ 100 ∧ (∀ u : Nat, u < n → (gcM (0 + (u : Int)) n).isSome = true) ∧ r = il (unitsM n)
section
variable {P : Program} {w : World} {K : PySem.W.Frag} {mg : Str → Option Value} {base : Heap} {C : Ct}
theorem ok_common_of {f : Addr} {fd : FuncData} (F : Fun K "common_of" "common_of" st_common_of f fd) (T : Bi mg) (hb : Binds K fd ["one", "other"] []) : FnR P w K mg base CX0 1 f (spR C R_common_of) := by
  refine def_ok F sc_common_of hb (fun bs r h => ?_) (fun cdv A outer s H E bs r hr h => ?_)
  · obtain ⟨a, b, g, rfl, _⟩ := h
    rfl
  · obtain ⟨a, b, g, rfl, hg, rfl⟩ := h
    unfold gcM at hg
    cases hw : wloop gcC gcF 60 (a, b) with
    | none => rw [hw] at hg; cases hg
    | some fin =>
      rw [hw] at hg
      have e : (if fin.1 < 0 then -fin.1 else fin.1) = g := Option.some.inj hg
      refine q_whileM (fun s => [.va (.int s.1), .va (.int s.2)]) gcC gcF 60 (a, b) fin PassesOwn.never hw (Weak.refl _) (fun s k hk => ?_) (fun s s' hc hf => ?_) ?_
      · cases hk
        exact c_ne (e_var 1) e_int
      · cases hf
        have n0 : s.2 ≠ 0 := by
          have := Option.some.inj hc
          simpa using this
        exact q_par 0 1 (e_var 1) (e_mod (e_var 0) (e_var 1) n0) rfl sc_common_of.nd (q_nil loop_eq)
      · refine q_ret (e_abs T.abs (e_var 0)) ?_
        show B.int _ = B.int g
        rw [e]
theorem ok_units_list {f : Addr} {fd : FuncData} (F : Fun K "units_list" "units_list" st_units_list f fd) (T : Bi mg) (D : Dn P w K mg base "common_of" 1 (spR C R_common_of)) (hb : Binds K fd ["modulus"] []) : FnR P w K mg base CX0 2 f (spR C R_units_list) := by
  refine def_ok F sc_units_list hb (fun bs r h => ?_) (fun cdv A outer s H E bs r hr h => ?_)
  · obtain ⟨n, rfl, _⟩ := h
    rfl
  · obtain ⟨n, rfl, hn, hg, rfl⟩ := h
    have e : il (unitsM n) = .lst (((List.range n).filter fun (u : Nat) => gcM (0 + (u : Int)) n == some 1).map fun (u : Nat) => B.int (0 + (u : Int))) := by
      show B.lst _ = _
      rw [iB, unitsM, List.map_map]
      rfl
    rw [e]
    have gs : ∀ z : Nat, z < n → ∃ g, gcM (0 + (z : Int)) n = some g := fun z hz => Option.isSome_iff_exists.mp (hg z hz)
    refine q_ret (e_of (f_lc (own := [("unit", 1)]) (List.range n) (fun (i : Nat) => B.int (0 + (i : Int))) (fun (i : Nat) => [.va (.int n), .va (.int (0 + (i : Int)))]) _ _ rfl sc_units_list.nd
      (v_rng1 T.range (a_cons (e_var 0) a_nil) (by omega)) (blkOk_by (N := ["modulus", "unit"]) (sc := defScope st_units_list) (by decide +kernel)) (blk_of _ _) (fun _ _ _ _ _ z hz => g_name 1 sc_units_list.nd)
      (fun s' H' Ca cl fp z hz => ?_) (fun _ _ _ _ _ z hz _ => e_var 1) (by rw [List.length_range, sizeLine_eq]; omega))) rfl
    obtain ⟨g, hgz⟩ := gs z (List.mem_range.mp hz)
    have ek : (gcM (0 + (z : Int)) n == some 1) = decide (g = 1) := by
      rw [hgz]
      by_cases h1 : g = 1
      · subst h1; rfl
      · rw [decide_eq_false h1]
        simp [h1]
    show PTs _ _ (cOf C _ (gcM (0 + (z : Int)) n == some 1) _)
    rw [ek]
    exact t_one (c_eq (e_call (R := R_common_of) D hr (a_cons (e_var 1) (a_cons (e_var 0) a_nil)) ⟨_, _, g, rfl, hgz, rfl⟩) e_int)
end
end Q
end

/-! text W4 -/
section
set_option Elab.async false
set_option linter.all false
set_option maxRecDepth 100000
/-! powers_in, divisors_in -/
namespace Q
open PySem PySem.Spec PyProof.Rows L2
def small (i : Int) : Bool := decide (-(2 ^ 60) ≤ i) && decide (i ≤ 2 ^ 60)
theorem small_of {i : Int} (h : small i = true) : -(2 ^ 62) ≤ i ∧ i ≤ 2 ^ 62 := by
  unfold small at h
  rw [Bool.and_eq_true, decide_eq_true_iff, decide_eq_true_iff] at h
  omega
theorem small_log {i : Int} (h : small i = true) : i.natAbs.log2 < 9000 := by
  have := small_of h
  have h2 : i.natAbs < 2 ^ 63 := by omega
  by_cases h0 : i.natAbs = 0
  · rw [h0]; decide
  · have := (Nat.log2_lt h0).mpr h2
    omega
section
variable {X : Cx}
theorem ip_fdivZ : PIp X .FloorDiv (rI CDivZ fun i j => .int (i.fdiv j)) := opI fun _ _ _ _ _ _ _ hc q => ifloordiv_int hc.1 q (.inl (PyProof.noPylong_of_log2 hc.2))
theorem ip_mulX : PIp X .Mult (rI CMulX fun i j => .int (i * j)) := opI fun _ _ _ _ _ _ _ hc q => imul_int q hc.ok
theorem ip_add0 : PIp X .Add (rI0 fun i j => .int (i + j)) := fun pins s σ H x y v u Q I r1 r2 h => L2.ip_add pins s σ H x y v u Q I r1 r2 h
theorem ip_sub0 : PIp X .Sub (rI0 fun i j => .int (i - j)) := fun pins s σ H x y v u Q I r1 r2 h => L2.ip_sub pins s σ H x y v u Q I r1 r2 h
end
/-- a guard -/
def grd {α : Type} (c : Bool) (x : α) : Option α := if c then some x else none
theorem grd_some {α : Type} {c : Bool} {x y : α} (h : grd c x = some y) : c = true ∧ x = y := by
  unfold grd at h
  split at h
  · rename_i q
    exact ⟨q, Option.some.inj h⟩
  · cases h
structure PwS where
  kbs : List (Int × Int)
  left : Int
  fac : Int
def pwC1 (s : PwS) : Option Bool := grd (decide (s.fac ≠ 0)) (decide (s.left.fmod s.fac = 0))
def pwF1 (s : PwS) : Option PwS := grd (decide (s.fac ≠ 0) && small s.fac && decide (s.kbs.length < 1000)) ⟨putG s.kbs s.fac ((getG s.kbs s.fac).getD 0 + 1), s.left.fdiv s.fac, s.fac⟩
def pwC2 (s : PwS) : Option Bool := grd (small s.fac) (decide (s.fac * s.fac ≤ s.left))
def pwF2 (s : PwS) : Option PwS := (wloop pwC1 pwF1 40 s).map fun s => ⟨s.kbs, s.left, s.fac + if s.fac = 2 then 1 else 2⟩
def powersM (n : Int) : Option (List (Int × Int)) := (wloop pwC2 pwF2 40 ⟨[], n, 2⟩).bind fun s => grd (decide (s.kbs.length < 1000)) (if 1 < s.left then putG s.kbs s.left ((getG s.kbs s.left).getD 0 + 1) else s.kbs)
def R_powers_in (bs : List B) (r : B) : Prop := ∃ n kbs, bs = [.int n] ∧ powersM n = some kbs ∧ r = .dic (kbs.map (·.1)) (kbs.map fun q => .int q.2)
abbrev st_powers_in : Stmt := top 13
theorem sc_powers_in : FnScope ["number", "found", "left", "factor"] ["number"] (defScope st_powers_in) := ⟨rfl, rfl, rfl, by decide +kernel, rfl, by decide +kernel, by decide +kernel⟩
def pwS (n : Int) (s : PwS) : List Sl := [.va (.int n), .ow (.dic (kG B.int s.kbs)), .va (.int s.left), .va (.int s.fac)]
theorem getD_int (kbs : List (Int × Int)) (k : Int) : (dget (kG B.int kbs) k).getD (.int 0) = .int ((getG kbs k).getD 0) := by
  rw [dget_kG]
  cases getG kbs k <;> rfl
section
variable {P : Program} {w : World} {K : PySem.W.Frag} {mg : Str → Option Value} {base : Heap} {C : Ct}
theorem ok_powers_in {f : Addr} {fd : FuncData} (F : Fun K "powers_in" "powers_in" st_powers_in f fd) (T : Bi mg) (hb : Binds K fd ["number"] []) : FnR P w K mg base CX0 1 f (spR C R_powers_in) := by
  refine def_ok F sc_powers_in hb (fun bs r h => ?_) (fun cdv A outer s H E bs r hr h => ?_)
  · obtain ⟨n, kbs, rfl, _⟩ := h
    rfl
  · obtain ⟨n, kbs, rfl, hg, rfl⟩ := h
    unfold powersM at hg
    cases hw : wloop pwC2 pwF2 40 ⟨[], n, 2⟩ with
    | none => rw [hw] at hg; cases hg
    | some fin =>
      rw [hw] at hg
      obtain ⟨hl, ek⟩ := grd_some hg
      have hl' : fin.kbs.length < 1000 := of_decide_eq_true hl
      refine q_par3 1 2 3 f_dic (a_cons (e_var 0) (a_cons e_int a_nil)) rfl sc_powers_in.nd trivial ?_
      refine q_whileM (pwS n) pwC2 pwF2 40 ⟨[], n, 2⟩ fin PassesOwn.never hw (Weak.refl _) (fun s k hk => ?_) (fun s s' hc hf => ?_) ?_
      · obtain ⟨h1, rfl⟩ := grd_some hk
        exact c_le (e_mul (e_var 3) (e_var 3) (cmul_small (small_of h1) (small_of h1))) (e_var 2)
      · unfold pwF2 at hf
        cases hz : wloop pwC1 pwF1 40 s with
        | none => rw [hz] at hf; cases hf
        | some t =>
          rw [hz] at hf
          cases hf
          refine q_whileM (pwS n) pwC1 pwF1 40 s t PassesOwn.never hz (Weak.refl _) (fun s k hk => ?_) (fun s s' hc hf => ?_) ?_
          · obtain ⟨h1, rfl⟩ := grd_some hk
            exact c_eq (e_mod (e_var 2) (e_var 3) (of_decide_eq_true h1)) e_int
          · obtain ⟨h1, rfl⟩ := grd_some hf
            rw [Bool.and_eq_true, Bool.and_eq_true, decide_eq_true_iff, decide_eq_true_iff] at h1
            refine q_dput (x := .int ((getG s.kbs s.fac).getD 0 + 1)) (kbs := kG B.int s.kbs) 1 hr (e_add (e_dgetD 1 hr (e_var 3) e_int (getD_int _ _) ⟨rfl, rfl, rfl, rfl⟩) e_int) (e_var 3) (by rw [kG_len, sizeLine_eq]; omega) ?_
            rw [dput_kG]
            refine q_aug 2 ip_fdivZ (e_var 3) (o_I ⟨h1.1.1, small_log h1.1.2⟩) sc_powers_in.nd (q_nil loop_eq)
          · refine q_aug (y := .int (t.fac + if t.fac = 2 then 1 else 2)) 3 ip_add0 (x := .int (if t.fac = 2 then 1 else 2)) (e_if (k := decide (t.fac = 2)) (c_eq (e_var 3) e_int) (fun h => ?_) (fun h => ?_)) o_I0 sc_powers_in.nd (q_nil loop_eq)
            · rw [if_pos (of_decide_eq_true h)]
              exact e_int
            · rw [if_neg (of_decide_eq_false h)]
              exact e_int
      · refine q_if (k := decide (1 < fin.left)) (c_gt (e_var 2) e_int) (fun h => ?_) (fun h => ?_)
        · rw [if_pos (of_decide_eq_true h)] at ek
          subst ek
          refine q_dput (x := .int ((getG fin.kbs fin.left).getD 0 + 1)) (kbs := kG B.int fin.kbs) 1 hr (e_add (e_dgetD 1 hr (e_var 2) e_int (getD_int _ _) ⟨rfl, rfl, rfl, rfl⟩) e_int) (e_var 2) (by rw [kG_len, sizeLine_eq]; omega) ?_
          rw [dput_kG]
          refine q_nil (q_ret (e_dfrz 1) ?_)
          show B.dic _ _ = B.dic _ _
          rw [kG, List.map_map, List.map_map]
          rfl
        · rw [if_neg (of_decide_eq_false h)] at ek
          subst ek
          refine q_nil (q_ret (e_dfrz 1) ?_)
          show B.dic _ _ = B.dic _ _
          rw [kG, List.map_map, List.map_map]
          rfl
end
end Q
end

/-! text W5 -/
section
set_option Elab.async false
set_option linter.all false
set_option maxRecDepth 100000
/-! divisors_in -/
namespace Q
open PySem PySem.Spec PyProof.Rows L2
def dvI (found : List Int) (p : Int) (s : Int × List Int) (_ : B) : Option (Int × List Int) := grd (small s.1 && small p && small (s.1 * p) && found.all small && decide (s.2.length + found.length ≤ 1000)) (s.1 * p, s.2 ++ found.map fun o => o * (s.1 * p))
def dvO (found : List Int) : B → Option (List Int)
  | .tup [.int p, .int m] => if 0 ≤ m ∧ m ≤ 60 then ((rngB 0 m.toNat).foldlM (dvI found p) (1, found)).map (·.2) else none
  | _ => none
def dvM (kbs : List (Int × Int)) : Option (List Int) := (((kbs.map (·.1)).zip (kbs.map fun q => B.int q.2)).map pairK).foldlM dvO [1]
def R_divisors_in (bs : List B) (r : B) : Prop := ∃ n kbs fin ms, bs = [.int n] ∧ powersM n = some kbs ∧ dvM kbs = some fin ∧ fin.Perm ms ∧ ms.Pairwise (· ≤ ·) ∧ r = il ms
abbrev st_divisors_in : Stmt := top 15
theorem sc_divisors_in : FnScope ["number", "found", "prime", "many", "power", "longer", "turn", "one"] ["number"] (defScope st_divisors_in) := ⟨rfl, rfl, rfl, by decide +kernel, rfl, by decide +kernel, by decide +kernel⟩
theorem perm_sorted : ∀ {a b : List Int}, a.Perm b → a.Pairwise (· ≤ ·) → b.Pairwise (· ≤ ·) → a = b := fun {a b} h1 h2 h3 => h1.eq_of_pairwise (fun x y _ _ u v => Int.le_antisymm u v) h2 h3
section
variable {P : Program} {w : World} {K : PySem.W.Frag} {mg : Str → Option Value} {base : Heap} {C : Ct}
theorem ok_divisors_in {f : Addr} {fd : FuncData} (F : Fun K "divisors_in" "divisors_in" st_divisors_in f fd) (T : Bi mg) (D : Dn P w K mg base "powers_in" 1 (spR C R_powers_in)) (hb : Binds K fd ["number"] []) : FnR P w K mg base CX0 2 f (spR C R_divisors_in) := by
  refine def_ok F sc_divisors_in hb (fun bs r h => ?_) (fun cdv A outer s H E bs r hr h => ?_)
  · obtain ⟨n, kbs, fin, ms, rfl, _⟩ := h
    rfl
  · obtain ⟨n, kbs, fin, ms, rfl, hp, hd, hpm, hs, rfl⟩ := h
    refine q_set (x := il [1]) 1 (e_lst (a_cons e_int a_nil) (by decide)) sc_divisors_in.nd ?_
    refine q_forM (fun (l : List Int) => [.va (.int n), .va (il l), .un, .un, .un, .un, .un, .un]) dvO [1] fin PassesOwn.never rfl (v_items (e_call (R := R_powers_in) D hr (a_cons (e_var 0) a_nil) ⟨n, kbs, rfl, hp, rfl⟩)) hd (Weak.refl _) (fun l l' x hx hst => ?_) ?_
    · unfold dvO at hst
      split at hst
      · rename_i p m
        split at hst
        · rename_i hm
          cases hz : (rngB 0 m.toNat).foldlM (dvI l p) (1, l) with
          | none => rw [hz] at hst; cases hst
          | some t =>
            rw [hz] at hst
            cases hst
            refine ⟨_, _, g_pair 2 3 rfl sc_divisors_in.nd, ?_⟩
            refine q_parC (o := .lst (iB l)) 4 5 e_int (f_list true T.list (e_var 1)) rfl sc_divisors_in.nd ?_
            have em : m = (m.toNat : Int) := by omega
            refine q_forM (fun (s : Int × List Int) => [.va (.int n), .va (il l), .va (.int p), .va (.int m), .va (.int s.1), .ow (.lst (iB s.2)), .un, .un]) (dvI l p) (1, l) t PassesOwn.never rfl (v_rng1 (n := m.toNat) T.range (a_cons (by rw [← em]; exact e_var 3) a_nil) (by omega)) hz (Weak.refl _) (fun u u' y hy hst => ?_) ?_
            · obtain ⟨hg, rfl⟩ := grd_some hst
              simp only [Bool.and_eq_true, decide_eq_true_iff, List.all_eq_true] at hg
              obtain ⟨⟨⟨⟨g1, g2⟩, g3⟩, g4⟩, g5⟩ := hg
              refine ⟨_, _, g_name 6 sc_divisors_in.nd, ?_⟩
              refine q_aug (y := .int (u.1 * p)) 4 ip_mulX (e_var 2) (o_I (cmul_small (small_of g1) (small_of g2))) sc_divisors_in.nd ?_
              refine q_ext (xs := iB u.2) (bs := l.map fun o => B.int (o * (u.1 * p))) 5 (e_of (f_lcA (own := [("one", 7)]) l B.int (fun o => [.va (.int n), .va (il l), .va (.int p), .va (.int m), .va (.int (u.1 * p)), .un, .va y, .va (.int o)]) _ rfl sc_divisors_in.nd
                (v_list (e_var 1)) (blkOk_by (N := ["number", "found", "prime", "many", "power", "longer", "turn", "one"]) (sc := defScope st_divisors_in) (by decide +kernel)) (blk_of _ _) (fun _ _ _ _ _ z hz => g_name 7 sc_divisors_in.nd)
                (fun _ _ _ _ _ z hz => e_mul (e_var 7) (e_var 4) (cmul_small (small_of (g4 z hz)) (small_of g3))) (by rw [sizeLine_eq]; omega))) (by rw [List.length_map, List.length_map, sizeLine_eq]; omega) ?_
              have ea : iB u.2 ++ l.map (fun o => B.int (o * (u.1 * p))) = iB (u.2 ++ l.map fun o => o * (u.1 * p)) := by
                rw [iB, iB, List.map_append, List.map_map]
                rfl
              rw [ea]
              exact q_nil (loop_nx (by repeat (first | exact Weak.nil | apply Weak.eq | apply Weak.un)) rfl)
            · refine q_frz (xs := iB t.2) 5 (k := ?_)
              exact q_set 1 (e_var 5) sc_divisors_in.nd (q_nil (loop_nx (by repeat (first | exact Weak.nil | apply Weak.eq | apply Weak.un)) rfl))
        · cases hst
      · cases hst
    · refine q_ret (e_of (f_sorted (ms := ms) T.sorted (e_var 1) fun ns' h1 h2 => perm_sorted (h1.trans hpm) h2 hs)) rfl
end
end Q
end

/-! text W6 -/
section
set_option Elab.async false
set_option linter.all false
set_option maxRecDepth 100000
/-! exact_quotient, cyclotomic_in -/
namespace Q
open PySem PySem.Spec PyProof.Rows L2
section
variable {X : Cx} {C : Ct} {e a b c : Expr} {ρ ρ1 : List Sl} {pos : Pos} {rest : List Stmt} {post : Out → Prop}
/-- for k, v in d.items(), d owned, as a fold -/
theorem q_forDM {S α : Type} {tbl : List (Int × α)} (g : α → B) (i : Nat) {elts : List Expr} {kk : Nat} {tp ap ip p : Pos} {n : Str} {body : List Stmt} (F : S → List Sl) (step : S → Int × α → Option S) (s0 fin : S) (hp : PassesOwn (model X.prog X.w) X.A X.env X.xe) (hc : X.calm = true)
    (hf : tbl.foldlM step s0 = some fin) (h0 : ∀ d o kvs, Weak (ρ.set i (.ow (.lk d o kvs (kG g tbl)))) ((F s0).set i (.ow (.lk d o kvs (kG g tbl))))) (hi : ∀ s : S, i < (F s).length)
    (hs : ∀ d o kvs s s' k x, (k, x) ∈ tbl → step s (k, x) = some s' → ∃ ρ'' js, GB C X (.Tuple elts kk tp) ((F s).set i (.ow (.lk d o kvs (kG g tbl)))) (.tup [.int k, g x]) ρ'' js ∧ SB C X body ρ'' (LoopP (fun ρ => ρ = (F s').set i (.ow (.lk d o kvs (kG g tbl)))) (fun _ => False)))
    (k : SB C X rest ((F fin).set i (.ow (.dic (kG g tbl)))) post)
    (hρ : ρ[i]? = some (.ow (.dic (kG g tbl))) := by rfl) (hN : X.N[i]? = some n := by rfl)
    (hv : Vis X.env.scope n := by first | exact Or.inl rfl | exact Or.inr (Or.inl rfl) | exact Or.inr (Or.inr rfl)) (hdb : (n == ("__debug__" : Str)) = false := by decide) (hcd : (n == ("__classdict__" : Str)) = false := by decide)
    (hbase : attributeBase (.Name n ip) "items" X.env (eval (.Name n ip) X.env) = eval (.Name n ip) X.env := by rfl) (hline : (ap.endLine == p.line) = true := by rfl)
    (hfo : ∀ x, foldedSetIterable (.Call (.Attribute (.Name n ip) "items" ap) [] [] p) X.env x = pure x := by intro _; rfl) :
    SB C X (.For (.Tuple elts kk tp) (.Call (.Attribute (.Name n ip) "items" ap) [] [] p) body [] pos :: rest) ρ post := by
  refine q_forD (kbs := kG g tbl) i (W := fun d o kvs j ρ => ∃ s, ρ = (F s).set i (.ow (.lk d o kvs (kG g tbl))) ∧ (tbl.drop j).foldlM step s = some fin) hp hc (fun d o kvs => ⟨_, h0 d o kvs, s0, rfl, by simpa using hf⟩) (fun d o kvs j k x ρ' hx ⟨s, er, hg⟩ => ?_) (fun d o kvs ρ' ⟨s, er, hg⟩ => ?_) hρ hN hv hdb hcd hbase hline hfo
  · subst er
    unfold kG at hx
    rw [List.getElem?_map] at hx
    cases ht : tbl[j]? with
    | none => rw [ht] at hx; cases hx
    | some q =>
      rw [ht] at hx
      cases hx
      have hd : tbl.drop j = q :: tbl.drop (j + 1) := by
        obtain ⟨hl, e⟩ := List.getElem?_eq_some_iff.mp ht
        rw [List.drop_eq_getElem_cons hl, e]
      rw [hd, List.foldlM_cons] at hg
      refine ⟨List.getElem?_set_self (hi s), ?_⟩
      cases hq : step s q with
      | none => rw [hq] at hg; cases hg
      | some s' =>
        rw [hq] at hg
        obtain ⟨ρ'', js, g1, g2⟩ := hs d o kvs s s' q.1 q.2 (List.mem_of_getElem? ht) hq
        refine ⟨ρ'', js, g1, pss_mono g2 fun D σ H ⟨β, H0, V, K⟩ => ⟨β, H0, V, fun ρ4 q => ?_, K.2.1, K.2.2.1, fun ρ4 q => ?_, K.2.2.2.2⟩⟩
        · obtain ⟨ρ5, w, e5⟩ := q
          exact K.1 ρ4 ⟨ρ5, w, s', e5, hg⟩
        · obtain ⟨ρ5, w, e5⟩ := q
          exact K.2.2.2.1 ρ4 ⟨ρ5, w, s', e5, hg⟩
  · subst er
    rw [kG_len, List.drop_length, List.foldlM_nil] at hg
    cases hg
    refine ⟨List.getElem?_set_self (hi _), ?_⟩
    rw [List.set_set]
    exact k
end
section
variable {X : Cx} {C : Ct} {tg e a b c : Expr} {ρ ρ1 : List Sl} {x y : B} {xs ys : List B}
theorem e_cv {i j : Int} (h : EB C X e ρ (.int i) ρ1) (q : i = j) : EB C X e ρ (.int j) ρ1 := q ▸ h
theorem e_cb (h : EB C X e ρ x ρ1) (q : x = y) : EB C X e ρ y ρ1 := q ▸ h
theorem f_cv (h : FB C X e ρ (.lst xs) ρ1) (q : xs = ys) : FB C X e ρ (.lst ys) ρ1 := q ▸ h
theorem v_cv (h : VB C X tg e ρ xs ρ1) (q : xs = ys) : VB C X tg e ρ ys ρ1 := q ▸ h
theorem c_cv {k l : Bool} (h : CB C X e ρ k ρ1) (q : k = l) : CB C X e ρ l ρ1 := q ▸ h
end
theorem rng_down {m : Nat} (h : m < 2 ^ 60) : RgC ((m : Int) - 1) (-1) (-1) m := by
  have := RgC.neg (i := (m : Int) - 1) (j := -1) (by omega) (by omega) (by omega) (by omega)
  have e : ((m : Int) - 1 - -1).toNat = m := by omega
  rw [e] at this
  exact this
/-! ### exact_quotient -/
def eqI (at_ fa : Int) (left : List Int) : B → Option (List Int)
  | .tup [.int place, .int entry] => if 0 ≤ at_ + place then (ixN left.length (at_ + place)).bind fun j => (atI left (at_ + place)).bind fun old => grd (small fa && small entry) (left.set j (old - fa * entry)) else none
  | _ => none
def eqO (other : List Int) (s : List Int × List Int) : B → Option (List Int × List Int)
  | .int at_ => (atI s.1 (at_ + other.length - 1)).bind fun v => (ixN s.2.length at_).bind fun j => if atI (s.2.set j v) at_ = some v then ((enumB (iB other)).foldlM (eqI at_ v) s.1).map fun l => (l, s.2.set j v) else none
  | _ => none
def eqM (one other : List Int) : Option (List Int) := if other.length ≤ one.length ∧ one.length ≤ 200 then ((rngC (((one.length - other.length + 1 : Nat) : Int) - 1) (-1) (one.length - other.length + 1)).foldlM (eqO other) (one, List.replicate (one.length - other.length + 1) 0)).map (·.2) else none
def R_exact_quotient (bs : List B) (r : B) : Prop := ∃ one other q, bs = [il one, il other] ∧ eqM one other = some q ∧ r = il q
abbrev st_exact_quotient : Stmt := top 20
theorem sc_exact_quotient : FnScope ["one", "other", "left", "found", "at", "place", "entry"] ["one", "other"] (defScope st_exact_quotient) := ⟨rfl, rfl, rfl, by decide +kernel, rfl, by decide +kernel, by decide +kernel⟩
theorem atI_iB {xs : List Int} {i v : Int} (h : atI xs i = some v) : atI (iB xs) i = some (.int v) := by
  unfold atI at h ⊢
  rw [List.length_map]
  cases hq : ixN xs.length i with
  | none => rw [hq] at h; cases h
  | some j =>
    rw [hq] at h
    have h' : xs[j]? = some v := h
    show (xs.map B.int)[j]? = _
    rw [List.getElem?_map, h']
    rfl
theorem flat_rep (n : Nat) : (List.replicate n [(B.int 0)]).flatten = iB (List.replicate n 0) := by
  induction n with
  | zero => rfl
  | succ n ih =>
    rw [List.replicate_succ, List.replicate_succ, List.flatten_cons, ih]
    rfl
section
variable {P : Program} {w : World} {K : PySem.W.Frag} {mg : Str → Option Value} {base : Heap} {C : Ct}
theorem ok_exact_quotient {f : Addr} {fd : FuncData} (F : Fun K "exact_quotient" "exact_quotient" st_exact_quotient f fd) (T : Bi mg) (hb : Binds K fd ["one", "other"] []) : FnR P w K mg base CX0 1 f (spR C R_exact_quotient) := by
  refine def_ok F sc_exact_quotient hb (fun bs r h => ?_) (fun cdv A outer s H E bs r hr h => ?_)
  · obtain ⟨one, other, q, rfl, _⟩ := h
    rfl
  · obtain ⟨one, other, q, rfl, hq, rfl⟩ := h
    unfold eqM at hq
    split at hq
    · rename_i hl
      obtain ⟨m, hm⟩ : ∃ m : Nat, m = one.length - other.length + 1 := ⟨_, rfl⟩
      rw [← hm] at hq
      cases hz : (rngC ((m : Int) - 1) (-1) m).foldlM (eqO other) (one, List.replicate m 0) with
      | none => rw [hz] at hq; cases hq
      | some fin =>
        rw [hz] at hq
        cases hq
        have l1 : (iB one).length = one.length := List.length_map ..
        have l2 : (iB other).length = other.length := List.length_map ..
        have lf : (iB (List.replicate m (0 : Int))).length = m := by rw [List.length_map, List.length_replicate]
        refine q_parOO (o1 := .lst (iB one)) (o2 := .lst (iB (List.replicate m 0))) 2 3 (f_list true T.list (e_var 0)) (f_cv (f_rep (xs := [.int 0]) (k := (m : Int)) (e_lst (a_cons e_int a_nil) (by decide)) (e_cv (e_add (e_sub (e_len true T.len (e_var 0)) (e_len true T.len (e_var 1))) e_int) (by omega)) (by omega) (by omega) (by
          show 1 * _ ≤ _
          rw [sizeLine_eq, Int.toNat_natCast]
          omega)) (by rw [Int.toNat_natCast, flat_rep])) rfl sc_exact_quotient.nd trivial ?_
        refine q_forM (fun (s : List Int × List Int) => [.va (il one), .va (il other), .ow (.lst (iB s.1)), .ow (.lst (iB s.2)), .un, .un, .un]) (eqO other) (one, List.replicate m 0) fin PassesOwn.never rfl
          (v_rng3 (lo := (m : Int) - 1) (hi := -1) (st := -1) T.range (a_cons (e_cv (e_sub (e_lenO 3 T.len) e_int) (by rw [lf])) (a_cons (e_neg e_int) (a_cons (e_neg e_int) a_nil))) (rng_down (by omega))) hz (Weak.refl _) (fun u u' x hx hst => ?_) ?_
        · unfold eqO at hst
          split at hst
          · rename_i at_
            cases h1 : atI u.1 (at_ + other.length - 1) with
            | none => rw [h1] at hst; cases hst
            | some v =>
              rw [h1] at hst
              cases h2 : ixN u.2.length at_ with
              | none => rw [h2] at hst; cases hst
              | some j =>
                rw [h2] at hst
                have hst' : (if atI (u.2.set j v) at_ = some v then ((enumB (iB other)).foldlM (eqI at_ v) u.1).map fun l => (l, u.2.set j v) else none) = some u' := hst
                split at hst'
                · rename_i h3
                  cases h4 : (enumB (iB other)).foldlM (eqI at_ v) u.1 with
                  | none => rw [h4] at hst'; cases hst'
                  | some l =>
                    rw [h4] at hst'
                    cases hst'
                    refine ⟨_, _, g_name 4 sc_exact_quotient.nd, ?_⟩
                    refine q_put (xs := iB u.2) (x := .int v) (j := j) (k := at_) 3 (e_ixO 2 rfl (e_sub (e_add (e_var 4) (e_len true T.len (e_var 1))) e_int) (atI_iB (by rw [l2]; exact h1))) (e_var 4) (by rw [List.length_map]; exact h2) ?_
                    rw [show (iB u.2).set j (.int v) = iB (u.2.set j v) from (List.map_set ..).symm]
                    refine q_forM (fun (s : List Int) => [.va (il one), .va (il other), .ow (.lst (iB s)), .ow (.lst (iB (u.2.set j v))), .va (.int at_), .un, .un]) (eqI at_ v) u.1 l PassesOwn.never rfl (v_enum (k := true) T.enum (e_var 1)) h4 (Weak.refl _) (fun s s' y hy hst => ?_) ?_
                    · unfold eqI at hst
                      split at hst
                      · rename_i place entry
                        split at hst
                        · rename_i h5
                          cases h6 : ixN s.length (at_ + place) with
                          | none => rw [h6] at hst; cases hst
                          | some k =>
                            rw [h6] at hst
                            cases h7 : atI s (at_ + place) with
                            | none => rw [h7] at hst; cases hst
                            | some old =>
                              rw [h7] at hst
                              obtain ⟨hg, rfl⟩ := grd_some (show grd _ _ = some s' from hst)
                              rw [Bool.and_eq_true] at hg
                              refine ⟨_, _, g_pair 5 6 rfl sc_exact_quotient.nd, ?_⟩
                              refine q_putA (xs := iB s) (x0 := .int old) (y := .int (old - v * entry)) (j := k) (k := at_ + place) 2 ip_sub0 (e_add (e_var 4) (e_var 5)) h5 (by rw [List.length_map]; exact h6) (atI_iB h7) (e_mul (e_ixO 3 rfl (e_var 4) (atI_iB h3)) (e_var 6) (cmul_small (small_of hg.1) (small_of hg.2))) o_I0 ?_
                              rw [show (iB s).set k (.int (old - v * entry)) = iB (s.set k (old - v * entry)) from (List.map_set ..).symm]
                              exact q_nil (loop_nx (by repeat (first | exact Weak.nil | apply Weak.eq | apply Weak.un)) rfl)
                        · cases hst
                      · cases hst
                    · exact q_nil (loop_nx (by repeat (first | exact Weak.nil | apply Weak.eq | apply Weak.un)) rfl)
                · cases hst'
          · cases hst
        · exact q_frz (xs := iB fin.2) 3 (k := q_ret (e_var 3) rfl)
    · cases hq
end
end Q
end

/-! text W7 -/
section
set_option Elab.async false
set_option linter.all false
set_option maxRecDepth 100000
/-! cyclotomic_in -/
namespace Q
open PySem PySem.Spec PyProof.Rows L2
def cyI (number : Int) (found : List Int) (p : Int × List Int) : Option (List Int) := if p.1 ≠ 0 then (if number.fmod p.1 = 0 then eqM found p.2 else some found) else none
def cyO (known : List (Int × List Int)) (number : Int) : Option (List (Int × List Int)) :=
  if 1 ≤ number ∧ number ≤ 100 ∧ known.length ≤ 100 then (known.foldlM (cyI number) (-1 :: (List.replicate (number.toNat - 1) 0 ++ [1]))).map fun f => putG known number f else none
def cyF (known : List (Int × List Int)) : B → Option (List (Int × List Int))
  | .int n => cyO known n
  | _ => none
def R_cyclotomic_in (bs : List B) (r : B) : Prop := ∃ n ds known q, bs = [.int n] ∧ R_divisors_in [.int n] (il ds) ∧ (iB ds).foldlM cyF [] = some known ∧ getG known n = some q ∧ r = il q
abbrev st_cyclotomic_in : Stmt := top 21
theorem sc_cyclotomic_in : FnScope ["order", "known", "number", "found", "less", "entries"] ["order"] (defScope st_cyclotomic_in) := ⟨rfl, rfl, rfl, by decide +kernel, rfl, by decide +kernel, by decide +kernel⟩
section
variable {P : Program} {w : World} {K : PySem.W.Frag} {mg : Str → Option Value} {base : Heap} {C : Ct}
theorem ok_cyclotomic_in {f : Addr} {fd : FuncData} (F : Fun K "cyclotomic_in" "cyclotomic_in" st_cyclotomic_in f fd) (T : Bi mg) (D1 : Dn P w K mg base "divisors_in" 2 (spR C R_divisors_in)) (D2 : Dn P w K mg base "exact_quotient" 1 (spR C R_exact_quotient)) (hb : Binds K fd ["order"] []) : FnR P w K mg base CX0 3 f (spR C R_cyclotomic_in) := by
  refine def_ok F sc_cyclotomic_in hb (fun bs r h => ?_) (fun cdv A outer s H E bs r hr h => ?_)
  · obtain ⟨n, ds, known, q, rfl, _⟩ := h
    rfl
  · obtain ⟨n, ds, known, q, rfl, hd, hk, hq, rfl⟩ := h
    refine q_own (o := .dic (kG il [])) 1 f_dic sc_cyclotomic_in.nd ?_
    refine q_forM (fun (s : List (Int × List Int)) => [.va (.int n), .ow (.dic (kG il s)), .un, .un, .un, .un]) cyF [] known PassesOwn.never rfl (v_list (e_call (R := R_divisors_in) D1 hr (a_cons (e_var 0) a_nil) hd)) hk (Weak.refl _) (fun u u' x hx hst => ?_) ?_
    · unfold cyF at hst
      split at hst
      · rename_i number
        unfold cyO at hst
        split at hst
        · rename_i hg
          obtain ⟨g1, g2, g3⟩ := hg
          cases hz : u.foldlM (cyI number) (-1 :: (List.replicate (number.toNat - 1) 0 ++ [1])) with
          | none => rw [hz] at hst; cases hst
          | some fq =>
            rw [hz] at hst
            cases hst
            refine ⟨_, _, g_name 2 sc_cyclotomic_in.nd, ?_⟩
            have er : (number - 1).toNat = number.toNat - 1 := by omega
            refine q_set (x := il (-1 :: (List.replicate (number.toNat - 1) 0 ++ [1]))) 3 (e_cb (e_lst (a_cons (e_neg e_int) (a_star (e_of (f_cv (f_rep (xs := [.int 0]) (k := number - 1) (e_lst (a_cons e_int a_nil) (by decide)) (e_sub (e_var 2) e_int) (by omega) (by omega) (by
              show 1 * _ ≤ _
              rw [sizeLine_eq, er]
              omega)) (by rw [er, flat_rep]))) (a_cons e_int a_nil))) ?_) ?_) sc_cyclotomic_in.nd ?_
            · simp only [List.length_cons, List.length_append, List.length_map, List.length_replicate, List.length_nil, sizeLine_eq]
              omega
            · show B.lst (_ :: (_ ++ _)) = B.lst (_ :: List.map _ (_ ++ _))
              rw [List.map_append]
              rfl
            · refine q_forDM il 1 (fun (s : List Int) => [.va (.int n), .un, .va (.int number), .va (il s), .un, .un]) (cyI number) _ fq PassesOwn.never rfl hz (fun d o kvs => Weak.refl _) (fun _ => by show 1 < 6; omega) (fun d o kvs s s' k y hy hst => ?_) ?_
              · unfold cyI at hst
                split at hst
                · rename_i h0
                  refine ⟨_, _, g_pair 4 5 rfl sc_cyclotomic_in.nd, ?_⟩
                  refine q_if (k := decide (number.fmod k = 0)) (c_eq (e_mod (e_var 2) (e_var 4) h0) e_int) (fun h => ?_) (fun h => ?_)
                  · rw [if_pos (of_decide_eq_true h)] at hst
                    refine q_set (x := il s') 3 (e_call (R := R_exact_quotient) D2 (hr.mono (by omega)) (a_cons (e_var 3) (a_cons (e_var 5) a_nil)) ⟨_, _, s', rfl, hst, rfl⟩) sc_cyclotomic_in.nd (q_nil ?_)
                    exact q_nil (loop_nx (by repeat (first | exact Weak.nil | apply Weak.eq | apply Weak.un)) rfl)
                  · rw [if_neg (of_decide_eq_false h)] at hst
                    cases hst
                    refine q_nil ?_
                    exact q_nil (loop_nx (by repeat (first | exact Weak.nil | apply Weak.eq | apply Weak.un)) rfl)
                · cases hst
              · refine q_dput (x := il fq) (kbs := kG il u) 1 hr (e_var 3) (e_var 2) (by rw [kG_len, sizeLine_eq]; omega) ?_
                rw [dput_kG]
                exact q_nil (loop_nx (by repeat (first | exact Weak.nil | apply Weak.eq | apply Weak.un)) rfl)
        · cases hst
      · cases hst
    · exact q_ret (e_dget (kbs := kG il known) 1 hr (e_var 0) (by rw [dget_kG, hq]; rfl)) rfl
end
end Q
end

/-! text W8 -/
section
set_option Elab.async false
set_option linter.all false
set_option maxRecDepth 100000
/-! Frame.__init__ -/
namespace Q
open PySem PySem.Spec PyProof.Rows L2
def idRow (n : Nat) (a : Nat) : List Int := (List.range n).map fun (p : Nat) => if decide (0 + (p : Int) = 0 + (a : Int)) then 1 else 0
def idM (n : Nat) : List (List Int) := (List.range n).map (idRow n)
def frC (n : Int) (size : Nat) (rows : List (List Int)) : Option Bool := some (decide ((rows.length : Int) < (if 2 * (size : Int) > n then 2 * (size : Int) else n)))
def frF (poly : List Int) (rows : List (List Int)) : Option (List (List Int)) :=
  (atI rows (-1)).bind fun lr => (atI lr (-1)).bind fun last => grd (small last && poly.all small && decide (rows.length ≤ 200) && decide (lr.length ≤ 200)) (rows ++ [((0 :: cut lr none (some (-1))).zip poly).map fun p => p.1 - last * p.2])
def lB (rows : List (List Int)) : B := .lst (rows.map il)
def R_frame_init (bs fs : List B) : Prop := ∃ n poly units rows, bs = [.int n] ∧ R_cyclotomic_in [.int n] (il poly) ∧ R_units_list [.int n] (il units) ∧ 2 ≤ poly.length ∧ poly.length ≤ 100 ∧ -1000 ≤ n ∧ n ≤ 1000 ∧
  wloop (frC n (poly.length - 1)) (frF poly) 100 (idM (poly.length - 1)) = some rows ∧ fs = [.int n, lB rows, .int ((poly.length : Int) - 1), il units]
abbrev st_frame_init : Stmt := met 22 1
abbrev sc_fi : Scope := { kind := .function, names := [(".0", .local), ("at", .cell), ("range", .globalImplicit), ("self", .cell)], isGenerator := false, isCoroutine := false }
theorem sc_frame_init : FnScope ["self", "order", "poly", "rows", "last", "ahead", "at", "place", "entry", "other"] ["self", "order"] (defScope st_frame_init) := ⟨rfl, rfl, rfl, by decide +kernel, rfl, by decide +kernel, by decide +kernel⟩
theorem cut_map {α β : Type} (f : α → β) (xs : List α) (lo hi : Option Int) : (cut xs lo hi).map f = cut (xs.map f) lo hi := by
  unfold cut
  rw [List.map_take, List.map_drop, List.length_map]
theorem atI_map {α β : Type} (f : α → β) {xs : List α} {i : Int} {v : α} (h : atI xs i = some v) : atI (xs.map f) i = some (f v) := by
  unfold atI at h ⊢
  rw [List.length_map]
  cases hq : ixN xs.length i with
  | none => rw [hq] at h; cases h
  | some j =>
    rw [hq] at h
    have h' : xs[j]? = some v := h
    show (xs.map f)[j]? = _
    rw [List.getElem?_map, h']
    rfl
section
variable {P : Program} {w : World} {K : PySem.W.Frag} {mg : Str → Option Value} {base : Heap} {C : Ct}
theorem ok_frame_init {f : Addr} {fd : FuncData} (F : Fun K "__init__" "Frame.__init__" st_frame_init f fd) (T : Bi mg) (D1 : Dn P w K mg base "cyclotomic_in" 3 (spR C R_cyclotomic_in)) (D2 : Dn P w K mg base "units_list" 2 (spR C R_units_list)) (S0 : Sf K C 0 "own_order" 0) (S1 : Sf K C 0 "own_rows" 1) (S2 : Sf K C 0 "own_size" 2) (S3 : Sf K C 0 "own_units" 3) (hb : Binds K fd ["self", "order"] []) : FnR P w K mg base CX0 4 f (spI C 0 R_frame_init) := by
  refine init_ok F sc_frame_init hb (fun bs r h => ?_) (fun cdv A outer s H E dx bs fs hr h => ?_)
  · obtain ⟨n, poly, units, rows, rfl, _, _, _, _, _, _, _, rfl⟩ := h
    exact ⟨rfl, fun z => nomatch z⟩
  · obtain ⟨n, poly, units, rows, rfl, hp, hu, hl1, hl2, hn1, hn2, hw, rfl⟩ := h
    refine q_set (x := il poly) 2 (e_call (R := R_cyclotomic_in) D1 hr (a_cons (e_var 1) a_nil) hp) sc_frame_init.nd ?_
    refine q_at S0 (e_var 1) ?_
    have lp : (iB poly).length = poly.length := List.length_map ..
    refine q_at S2 (x := .int ((poly.length : Int) - 1)) (e_cv (e_sub (e_len true T.len (e_var 2)) e_int) (by rw [lp])) ?_
    refine q_at S3 (x := il units) (e_call (R := R_units_list) D2 (hr.mono (by omega)) (a_cons (e_var 1) a_nil) hu) ?_
    have es : ((poly.length : Int) - 1) = ((poly.length - 1 : Nat) : Int) := by omega
    have nb : noObs ((List.range (poly.length - 1)).map fun a => il (idRow (poly.length - 1) a)) = true := by
      have : ∀ l : List Nat, noObs (l.map fun a => il (idRow (poly.length - 1) a)) = true := fun l => by
        induction l with
        | nil => rw [List.map_nil, noObs]
        | cons a r ih =>
          rw [List.map_cons, noObs, noOb, noObs_int, ih]
          rfl
      exact this _
    refine q_lcP (own := [("at", 6)]) 3 (List.range (poly.length - 1)) (fun (i : Nat) => B.int (0 + (i : Int))) (fun (i : Nat) => [.va (.pob 0 2 (.int ((poly.length - 1 : Nat) : Int))), .va (.int n), .va (il poly), .un, .un, .un, .va (.int (0 + (i : Int))), .un, .un, .un]) (fun a => il (idRow (poly.length - 1) a)) rfl sc_frame_init.nd
      (v_rng1 T.range (a_cons (e_atP S2 (e_var 0)) a_nil) (by omega)) (blkOk_by (N := ["self", "order", "poly", "rows", "last", "ahead", "at", "place", "entry", "other"]) (sc := defScope st_frame_init) (by decide +kernel)) (blk_of _ _) (fun _ _ _ _ _ z hz => g_name 6 sc_frame_init.nd)
      (fun s' H' Ca cl fp z hz => ?_) (by rw [List.length_range, sizeLine_eq]; omega) trivial nb (vs := [some (.int n), none, some (.int ((poly.length : Int) - 1)), some (il units)]) (by rw [es]; rfl) ?_
    · have e1 : il (idRow (poly.length - 1) z) = .lst ((List.range (poly.length - 1)).map fun (p : Nat) => B.int (if decide (0 + (p : Int) = 0 + (z : Int)) then 1 else 0)) := by
        show B.lst _ = _
        rw [iB, idRow, List.map_map]
        rfl
      rw [e1]
      exact e_of (f_lcA (own := [("place", 7)]) (List.range (poly.length - 1)) (fun (i : Nat) => B.int (0 + (i : Int))) (fun (i : Nat) => [.va (.pob 0 2 (.int ((poly.length - 1 : Nat) : Int))), .va (.int n), .va (il poly), .un, .un, .un, .va (.int (0 + (z : Int))), .va (.int (0 + (i : Int))), .un, .un]) _ rfl sc_frame_init.nd
        (v_rng1 T.range (a_cons (e_atP S2 (e_var 0)) a_nil) (by omega)) (blkOk_by (N := ["self", "order", "poly", "rows", "last", "ahead", "at", "place", "entry", "other"]) (sc := sc_fi) (by decide +kernel)) (blk_of _ _) (fun _ _ _ _ _ z hz => g_name 7 sc_frame_init.nd)
        (fun _ _ _ _ _ y hy => e_intB T.int (e_eq (e_var 7) (e_var 6))) (by rw [List.length_range, sizeLine_eq]; omega))
    · have ei : (List.range (poly.length - 1)).map (fun a => il (idRow (poly.length - 1) a)) = (idM (poly.length - 1)).map il := by rw [idM, List.map_map]; rfl
      rw [ei]
      refine q_whileM (fun (r : List (List Int)) => [.ow (.ins 0 dx [some (.int n), none, some (.int ((poly.length : Int) - 1)), some (il units)]), .va (.int n), .va (il poly), .ow (.lst (r.map il)), .un, .un, .un, .un, .un, .un]) (frC n (poly.length - 1)) (frF poly) 100 (idM (poly.length - 1)) rows PassesOwn.never hw (Weak.refl _) (fun u k hk => ?_) (fun u u' hc hf => ?_) ?_
      · cases hk
        have lr : (u.map il).length = u.length := List.length_map ..
        exact c_cv (c_lt (e_lenO 3 T.len) (e_max2 rfl T.max (e_var 1) (e_mul (j := (poly.length : Int) - 1) e_int (e_atI S2) (cmul_small (by omega) (by omega))))) (by rw [lr, es])
      · unfold frF at hf
        cases h1 : atI u (-1) with
        | none => rw [h1] at hf; cases hf
        | some lr =>
          rw [h1] at hf
          cases h2 : atI lr (-1) with
          | none =>
            have hf' : (atI lr (-1)).bind _ = some u' := hf
            rw [h2] at hf'
            cases hf'
          | some last =>
            have hf' : (atI lr (-1)).bind _ = some u' := hf
            rw [h2] at hf'
            obtain ⟨hg, rfl⟩ := grd_some (show grd _ _ = some u' from hf')
            simp only [Bool.and_eq_true, decide_eq_true_iff, List.all_eq_true] at hg
            obtain ⟨⟨⟨g1, g2⟩, g3⟩, g4⟩ := hg
            refine q_set (x := .int last) 4 (e_ixL (xs := iB lr) (e_ixO (xs := u.map il) 3 rfl (e_neg e_int) (atI_map il h1)) (e_neg e_int) (atI_iB h2)) sc_frame_init.nd ?_
            have lc : (cut lr none (some (-1))).length ≤ lr.length := by
              unfold cut
              rw [List.length_take, List.length_drop]
              omega
            have ea : B.lst (B.int 0 :: (cut (iB lr) none (some (-1)) ++ [])) = il (0 :: cut lr none (some (-1))) := by
              show B.lst _ = B.lst (_ :: List.map _ _)
              rw [cut_map, List.append_nil]
            refine q_set (x := il (0 :: cut lr none (some (-1)))) 5 (e_cb (e_lst (a_cons e_int (a_star (e_of (f_slL (xs := iB lr) (i := none) (j := some (-1)) (e_ixO (xs := u.map il) 3 rfl (e_neg e_int) (atI_map il h1)) i_none (i_some (e_neg e_int)))) a_nil)) ?_) ea) sc_frame_init.nd ?_
            · rw [List.append_nil, List.length_cons, ← cut_map, List.length_map, sizeLine_eq]
              omega
            · have e2 : il (((0 :: cut lr none (some (-1))).zip poly).map fun p => p.1 - last * p.2) = .lst (((0 :: cut lr none (some (-1))).zip poly).map fun p => B.int (p.1 - last * p.2)) := by
                show B.lst _ = _
                rw [iB, List.map_map]
                rfl
              refine q_app (xs := u.map il) (x := il (((0 :: cut lr none (some (-1))).zip poly).map fun p => p.1 - last * p.2)) 3 (e_cb (e_of (f_lcA (own := [("entry", 8), ("other", 9)]) ((0 :: cut lr none (some (-1))).zip poly) (fun p => .tup [.int p.1, .int p.2]) (fun p => [.un, .va (.int n), .va (il poly), .un, .va (.int last), .va (il (0 :: cut lr none (some (-1)))), .un, .un, .va (.int p.1), .va (.int p.2)]) _ rfl sc_frame_init.nd
                  (v_zipI (k := true) (l := true) T.zip (e_var 5) (e_var 2)) (blkOk_by (N := ["self", "order", "poly", "rows", "last", "ahead", "at", "place", "entry", "other"]) (sc := defScope st_frame_init) (by decide +kernel)) (blk_of _ _) (fun _ _ _ _ _ z hz => g_pair 8 9 rfl sc_frame_init.nd)
                  (fun _ _ _ _ _ y hy => e_sub (e_var 8) (e_mul (e_var 4) (e_var 9) (cmul_small (small_of g1) (small_of (g2 _ (List.of_mem_zip hy).2))))) (by rw [List.length_zip, sizeLine_eq]; omega))) e2.symm) (by rw [List.length_map, sizeLine_eq]; omega) ?_
              · rw [show u.map il ++ [il (((0 :: cut lr none (some (-1))).zip poly).map fun p => p.1 - last * p.2)] = (u ++ [((0 :: cut lr none (some (-1))).zip poly).map fun p => p.1 - last * p.2]).map il from by rw [List.map_append]; rfl]
                exact q_nil (loop_nx (by repeat (first | exact Weak.nil | apply Weak.eq | apply Weak.un)) rfl)
      · refine q_frz (xs := rows.map il) 3 (k := q_at S1 (e_var 3) (q_nil ?_))
        exact ⟨_, rfl⟩
end
end Q
end

/-! text W9 -/
section
set_option Elab.async false
set_option linter.all false
set_option maxRecDepth 100000
/-! Frame.folded, product, power_row, whole_row; z_times -/
namespace Q
open PySem PySem.Spec PyProof.Rows L2
def frB (n : Int) (rows : List (List Int)) (size : Nat) (units : List Int) : B := .ob 0 [.int n, lB rows, .int (size : Int), il units]
theorem atI_nat {α : Type} {xs : List α} {i : Nat} (h : i < xs.length) : atI xs (i : Int) = some xs[i] := by
  unfold atI ixN
  rw [if_pos (by omega), if_pos (by omega)]
  show xs[(i : Int).toNat]? = _
  rw [Int.toNat_natCast, List.getElem?_eq_getElem h]
theorem atI_D {α : Type} {xs : List α} {i : Nat} {d : α} (h : i < xs.length) : atI xs (i : Int) = some (xs.getD i d) := by
  rw [atI_nat h, List.getD_eq_getElem?_getD, List.getElem?_eq_getElem h]
  rfl
theorem ixN_nat {n i : Nat} (h : i < n) : ixN n (i : Int) = some i := by
  unfold ixN
  rw [if_pos (by omega), if_pos (by omega), Int.toNat_natCast]
/-! ### folded -/
def foS (rows : List (List Int)) (row : List Int) (size : Nat) (found : List Int) (i : Nat) : List Int := if row.getD (size + i) 0 = 0 then found else (found.zip (rows.getD (size + i) [])).map fun p => p.1 + row.getD (size + i) 0 * p.2
def foM (rows : List (List Int)) (row : List Int) (size : Nat) : List Int := (List.range (row.length - size)).foldl (foS rows row size) (row.take size)
def R_folded (bs : List B) (r : B) : Prop := ∃ n rows size units row, bs = [frB n rows size units, il row] ∧ size ≤ row.length ∧ row.length ≤ rows.length ∧ rows.length ≤ 1000 ∧ (∀ i, size + i < row.length → ∀ o ∈ rows.getD (size + i) [], CMulX (row.getD (size + i) 0) o) ∧ r = it (foM rows row size)
abbrev st_folded : Stmt := met 22 2
theorem sc_folded : FnScope ["self", "row", "found", "at", "factor", "entry", "other"] ["self", "row"] (defScope st_folded) := ⟨rfl, rfl, rfl, by decide +kernel, rfl, by decide +kernel, by decide +kernel⟩
theorem cut_take {α : Type} (xs : List α) (n : Nat) (h : n ≤ xs.length) : cut xs none (some (n : Int)) = xs.take n := by
  unfold cut HT.sIx
  simp only [List.drop_zero, Nat.sub_zero]
  rw [if_neg (by omega)]
  congr 1
  simp
  omega
section
variable {P : Program} {w : World} {K : PySem.W.Frag} {mg : Str → Option Value} {base : Heap} {C : Ct}
theorem ok_folded {f : Addr} {fd : FuncData} (F : Fun K "folded" "Frame.folded" st_folded f fd) (T : Bi mg) (S1 : Sf K C 0 "own_rows" 1) (S2 : Sf K C 0 "own_size" 2) (hb : Binds K fd ["self", "row"] []) : FnR P w K mg base CX0 1 f (spR C R_folded) := by
  refine def_ok F sc_folded hb (fun bs r h => ?_) (fun cdv A outer s H E bs r hr h => ?_)
  · obtain ⟨n, rows, size, units, row, rfl, _⟩ := h
    rfl
  · obtain ⟨n, rows, size, units, row, rfl, h1, h2, h3, h4, rfl⟩ := h
    have lr : (iB row).length = row.length := List.length_map ..
    have ec : cut (iB row) none (some (size : Int)) = iB (row.take size) := by rw [cut_take _ _ (by rw [lr]; exact h1)]; exact List.map_take.symm
    have lt : (iB (row.take size)).length = size := by rw [List.length_map, List.length_take]; omega
    refine q_own (o := .lst (iB (row.take size))) 2 (f_list true T.list (e_cb (e_of (f_slL (xs := iB row) (i := none) (j := some (size : Int)) (e_var 1) i_none (i_some (e_at S2 (e_var 0))))) (by rw [ec]; rfl))) sc_folded.nd ?_
    refine q_ext (xs := iB (row.take size)) (bs := []) 2 (e_of (f_cv (f_rep (xs := [.int 0]) (k := 0) (e_lst (a_cons e_int a_nil) (by decide)) (e_cv (e_sub (e_at S2 (e_var 0)) (e_lenO 2 T.len)) (by rw [lt]; omega)) (by omega) (by omega) (by decide)) rfl)) (by rw [lt, List.length_nil, sizeLine_eq]; omega) ?_
    rw [List.append_nil]
    refine q_frz (xs := iB (row.take size)) 2 (k := ?_)
    refine q_forP (fun (s : List Int) => [.va (frB n rows size units), .va (il row), .va (il s), .un, .un, .un, .un]) (List.range (row.length - size)) (fun (i : Nat) => B.int ((size : Int) + (i : Int))) (foS rows row size) (row.take size) (fun s => s.length ≤ size) PassesOwn.never rfl
      (v_cv (v_rng2 (lo := (size : Int)) (hi := (row.length : Int)) T.range (a_cons (e_at S2 (e_var 0)) (a_cons (e_cv (e_len true T.len (e_var 1)) (by rw [lr])) a_nil)) (by omega) (by omega)) (by rw [show ((row.length : Int) - (size : Int)).toNat = row.length - size from by omega]; rfl)) (Weak.refl _) (by rw [List.length_take]; omega) (fun u i hi hu => ?_) (fun _ => ?_)
    · have hi' := List.mem_range.mp hi
      have ea : ((size : Int) + (i : Int)) = ((size + i : Nat) : Int) := by omega
      have a1 : atI row ((size : Int) + (i : Int)) = some (row.getD (size + i) 0) := by rw [ea]; exact atI_D (by omega)
      have a2 : atI rows ((size : Int) + (i : Int)) = some (rows.getD (size + i) []) := by rw [ea]; exact atI_D (by omega)
      refine ⟨?_, _, _, g_name 3 sc_folded.nd, ?_⟩
      · unfold foS
        split
        · exact hu
        · rw [List.length_map, List.length_zip]
          omega
      · refine q_set (x := .int (row.getD (size + i) 0)) 4 (e_ixL (xs := iB row) (e_var 1) (e_var 3) (atI_iB a1)) sc_folded.nd ?_
        refine q_if (k := !decide (row.getD (size + i) 0 = 0)) (c_ne (e_var 4) e_int) (fun h => ?_) (fun h => ?_)
        · have h0 : ¬ row.getD (size + i) 0 = 0 := by simpa using h
          have eg : foS rows row size u i = (u.zip (rows.getD (size + i) [])).map fun p => p.1 + row.getD (size + i) 0 * p.2 := if_neg h0
          refine q_lcA (own := [("entry", 5), ("other", 6)]) 2 (u.zip (rows.getD (size + i) [])) (fun p => .tup [.int p.1, .int p.2]) (fun p => [.va (frB n rows size units), .va (il row), .va (il u), .va (.int ((size : Int) + (i : Int))), .va (.int (row.getD (size + i) 0)), .va (.int p.1), .va (.int p.2)]) (fun p => .int (p.1 + row.getD (size + i) 0 * p.2)) rfl sc_folded.nd
            (v_zipI (k := true) (l := true) T.zip (e_var 2) (e_ixL (xs := rows.map il) (e_at S1 (e_var 0)) (e_var 3) (atI_map il a2))) (blkOk_by (N := ["self", "row", "found", "at", "factor", "entry", "other"]) (sc := defScope st_folded) (by decide +kernel)) (blk_of _ _) (fun _ _ _ _ _ z hz => g_pair 5 6 rfl sc_folded.nd)
            (fun _ _ _ _ _ y hy => e_add (e_var 5) (e_mul (e_var 4) (e_var 6) (h4 i (by omega) _ (List.of_mem_zip hy).2))) (by rw [List.length_zip, sizeLine_eq]; omega) ?_
          refine q_frz (xs := (u.zip (rows.getD (size + i) [])).map fun p => .int (p.1 + row.getD (size + i) 0 * p.2)) 2 (k := ?_)
          rw [eg]
          rw [show (u.zip (rows.getD (size + i) [])).map (fun p => B.int (p.1 + row.getD (size + i) 0 * p.2)) = iB ((u.zip (rows.getD (size + i) [])).map fun p => p.1 + row.getD (size + i) 0 * p.2) from by rw [iB, List.map_map]; rfl]
          exact q_nil (q_nil (loop_nx (by repeat (first | exact Weak.nil | apply Weak.eq | apply Weak.un)) rfl))
        · have h0 : row.getD (size + i) 0 = 0 := by simpa using h
          have eg : foS rows row size u i = u := if_pos h0
          rw [eg]
          exact q_nil (q_nil (loop_nx (by repeat (first | exact Weak.nil | apply Weak.eq | apply Weak.un)) rfl))
    · exact q_ret (e_tuple true T.tuple (e_var 2)) rfl
end
end Q
end

/-! text W10 -/
section
set_option Elab.async false
set_option linter.all false
set_option maxRecDepth 100000
/-! Frame.product, power_row, whole_row; z_times -/
namespace Q
open PySem PySem.Spec PyProof.Rows L2
/-- the class c has the method m -/
structure Me (P : Program) (w : World) (K : PySem.W.Frag) (mg : Str → Option Value) (base : Heap) (C : Ct) (c : Nat) (m : Str) (k : Nat) (sp : Sp) : Prop where
  cl : SlX.SCls K (C.cls c)
  ex : ∃ g, Meth K (C.cls c) m g ∧ FnR P w K mg base CX0 k g sp
section
variable {X : Cx} {C : Ct} {e : Expr} {es : List Expr} {ρ ρ1 ρ2 : List Sl} {z : B} {bs : List B} {pos : Pos}
theorem e_me {o : Expr} {m : Str} {apos : Pos} {k c : Nat} {fs : List B} {R : List B → B → Prop} {pl : Sem Bool} (D : Me X.prog X.w X.K X.mg X.base C c m k (spR C R)) (ho : EB C X o ρ (.ob c fs) ρ1) (hr : Room k X.A)
    (ha : AB C X (e :: es) ρ1 bs ρ2) (hR : R (.ob c fs :: bs) z) (hst : starEach (e :: es) X.env = (false, eval e X.env) :: starEach es X.env := by rfl) (hpl : (backTo pos (starEach es X.env)).any (·.1) = false := by rfl)
    (ht : eval (.Call (.Attribute o m apos) (e :: es) [] pos) X.env = (do
      let ov ← eval o X.env
      standAt apos.atName
      let (f, first) ← holding [ov] (getMethod ov m pl)
      callWith pos f first (backTo pos (starEach (e :: es) X.env)) (backToKw pos (keywordEach [] X.env))) := by rfl) : EB C X (.Call (.Attribute o m apos) (e :: es) [] pos) ρ z ρ2 := by
  obtain ⟨g, hm, F⟩ := D.ex
  exact e_meth ho D.cl hm F hr ha hR hst hpl ht
end
/-! ### product -/
def addAt (l : List Int) (k : Nat) (v : Int) : List Int := l.set k (l.getD k 0 + v)
def prI (entry : Int) (at_ : Nat) (found : List Int) (q : Int × Nat) : List Int := addAt found (at_ + q.2) (entry * q.1)
def prO (other : List Int) (found : List Int) (p : Int × Nat) : List Int := if p.1 = 0 then found else other.zipIdx.foldl (prI p.1 p.2) found
def prM (size : Nat) (one other : List Int) : List Int := one.zipIdx.foldl (prO other) (List.replicate (2 * size) 0)
theorem prI_len (e : Int) (a : Nat) (f : List Int) (q : Int × Nat) : (prI e a f q).length = f.length := by unfold prI addAt; rw [List.length_set]
theorem foldl_len {α : Type} (g : List Int → α → List Int) (h : ∀ f q, (g f q).length = f.length) : ∀ (l : List α) (f : List Int), (l.foldl g f).length = f.length
  | [], _ => rfl
  | q :: r, f => by rw [List.foldl_cons, foldl_len g h r, h]
theorem prO_len (other : List Int) (f : List Int) (p : Int × Nat) : (prO other f p).length = f.length := by
  unfold prO
  split
  · rfl
  · exact foldl_len _ (prI_len p.1 p.2) _ _
theorem prM_len (size : Nat) (one other : List Int) : (prM size one other).length = 2 * size := by
  unfold prM
  rw [foldl_len _ (prO_len other), List.length_replicate]
def R_product (bs : List B) (r : B) : Prop := ∃ n rows size units k one l other, bs = [frB n rows size units, sq k one, sq l other] ∧ one.length ≤ size ∧ other.length ≤ size ∧ size ≤ 200 ∧ (∀ e ∈ one, ∀ g ∈ other, CMulX e g) ∧
  R_folded [frB n rows size units, il (prM size one other)] r
abbrev st_product : Stmt := met 22 3
theorem sc_product : FnScope ["self", "one", "other", "found", "at", "entry", "place", "factor"] ["self", "one", "other"] (defScope st_product) := ⟨rfl, rfl, rfl, by decide +kernel, rfl, by decide +kernel, by decide +kernel⟩
theorem enumB_iB (xs : List Int) : enumB (iB xs) = xs.zipIdx.map fun p => B.tup [.int (p.2 : Int), .int p.1] := by
  unfold enumB
  rw [iB, List.zipIdx_map, List.map_map]
  rfl
theorem mem_zipIdx {α : Type} {xs : List α} {p : α × Nat} (h : p ∈ xs.zipIdx) : p.2 < xs.length ∧ p.1 ∈ xs ∧ xs[p.2]? = some p.1 := by
  have h1 := List.mem_zipIdx_iff_getElem?.mp h
  refine ⟨(List.getElem?_eq_some_iff.mp h1).1, List.mem_of_getElem? h1, h1⟩
/-! ### power_row, whole_row, z_times -/
def R_power_row (bs : List B) (r : B) : Prop := ∃ n rows size units m row, bs = [frB n rows size units, .int m] ∧ n ≠ 0 ∧ atI rows (m.fmod n) = some row ∧ r = it row
abbrev st_power_row : Stmt := met 22 5
theorem sc_power_row : FnScope ["self", "many"] ["self", "many"] (defScope st_power_row) := ⟨rfl, rfl, rfl, by decide +kernel, rfl, by decide +kernel, by decide +kernel⟩
def R_whole_row (bs : List B) (r : B) : Prop := ∃ n rows size units m, bs = [frB n rows size units, .int m] ∧ 1 ≤ size ∧ size ≤ 200 ∧ r = it (m :: List.replicate (size - 1) 0)
abbrev st_whole_row : Stmt := met 22 6
theorem sc_whole_row : FnScope ["self", "number"] ["self", "number"] (defScope st_whole_row) := ⟨rfl, rfl, rfl, by decide +kernel, rfl, by decide +kernel, by decide +kernel⟩
def R_z_times (bs : List B) (r : B) : Prop := ∃ n rows size units e row, bs = [frB n rows size units, e] ∧ R_power_row [frB n rows size units, .int 1] row ∧ R_product [frB n rows size units, e, row] r
abbrev st_z_times : Stmt := top 55
theorem sc_z_times : FnScope ["frame", "entries"] ["frame", "entries"] (defScope st_z_times) := ⟨rfl, rfl, rfl, by decide +kernel, rfl, by decide +kernel, by decide +kernel⟩
section
variable {P : Program} {w : World} {K : PySem.W.Frag} {mg : Str → Option Value} {base : Heap} {C : Ct}
theorem ok_product {f : Addr} {fd : FuncData} (F : Fun K "product" "Frame.product" st_product f fd) (T : Bi mg) (S2 : Sf K C 0 "own_size" 2) (D : Me P w K mg base C 0 "folded" 1 (spR C R_folded)) (hb : Binds K fd ["self", "one", "other"] []) : FnR P w K mg base CX0 2 f (spR C R_product) := by
  refine def_ok F sc_product hb (fun bs r h => ?_) (fun cdv A outer s H E bs r hr h => ?_)
  · obtain ⟨n, rows, size, units, k, one, l, other, rfl, _⟩ := h
    rfl
  · obtain ⟨n, rows, size, units, k, one, l, other, rfl, h1, h2, h3, h4, h5⟩ := h
    refine q_own (o := .lst (iB (List.replicate (2 * size) 0))) 3 (f_cv (f_rep (xs := [.int 0]) (k := 2 * (size : Int)) (e_lst (a_cons e_int a_nil) (by decide)) (e_mul (j := (size : Int)) e_int (e_at S2 (e_var 0)) (cmul_small (by omega) (by omega))) (by omega) (by omega) (by
      show 1 * _ ≤ _
      rw [sizeLine_eq]
      omega)) (by rw [show (2 * (size : Int)).toNat = 2 * size from by omega, flat_rep])) sc_product.nd ?_
    refine q_forP (fun (s : List Int) => [.va (frB n rows size units), .va (sq k one), .va (sq l other), .ow (.lst (iB s)), .un, .un, .un, .un]) one.zipIdx (fun p => .tup [.int (p.2 : Int), .int p.1]) (prO other) (List.replicate (2 * size) 0) (fun s => s.length = 2 * size) PassesOwn.never rfl
      (v_cv (v_enum (k := k) T.enum (e_var 1)) (enumB_iB one)) (Weak.refl _) (by rw [List.length_replicate]) (fun u p hp hu => ?_) (fun _ => ?_)
    · obtain ⟨p1, p2, _⟩ := mem_zipIdx hp
      refine ⟨by rw [prO_len]; exact hu, _, _, g_pair 4 5 rfl sc_product.nd, ?_⟩
      refine q_if (k := !decide (p.1 = 0)) (c_ne (e_var 5) e_int) (fun h => ?_) (fun h => ?_)
      · have h0 : ¬ p.1 = 0 := by simpa using h
        have eg : prO other u p = other.zipIdx.foldl (prI p.1 p.2) u := if_neg h0
        rw [eg]
        refine q_forP (fun (s : List Int) => [.va (frB n rows size units), .va (sq k one), .va (sq l other), .ow (.lst (iB s)), .va (.int (p.2 : Int)), .va (.int p.1), .un, .un]) other.zipIdx (fun p => .tup [.int (p.2 : Int), .int p.1]) (prI p.1 p.2) u (fun s => s.length = 2 * size) PassesOwn.never rfl
          (v_cv (v_enum (k := l) T.enum (e_var 2)) (enumB_iB other)) (Weak.refl _) hu (fun v q hq hv => ?_) (fun _ => ?_)
        · obtain ⟨q1, q2, _⟩ := mem_zipIdx hq
          refine ⟨by rw [prI_len]; exact hv, _, _, g_pair 6 7 rfl sc_product.nd, ?_⟩
          have ei : ((p.2 : Int) + (q.2 : Int)) = ((p.2 + q.2 : Nat) : Int) := by omega
          have lv : (iB v).length = v.length := List.length_map ..
          refine q_putA (xs := iB v) (x0 := .int (v.getD (p.2 + q.2) 0)) (y := .int (v.getD (p.2 + q.2) 0 + p.1 * q.1)) (j := p.2 + q.2) (k := (p.2 : Int) + (q.2 : Int)) 3 ip_add0 (e_add (e_var 4) (e_var 6)) (by omega) (by rw [lv, ei]; exact ixN_nat (by omega)) (by rw [ei]; exact atI_iB (atI_D (by omega))) (e_mul (e_var 5) (e_var 7) (h4 _ p2 _ q2)) o_I0 ?_
          rw [show (iB v).set (p.2 + q.2) (.int (v.getD (p.2 + q.2) 0 + p.1 * q.1)) = iB (prI p.1 p.2 v q) from (List.map_set ..).symm]
          exact q_nil (loop_nx (by repeat (first | exact Weak.nil | apply Weak.eq | apply Weak.un)) rfl)
        · exact q_nil (q_nil (loop_nx (by repeat (first | exact Weak.nil | apply Weak.eq | apply Weak.un)) rfl))
      · have h0 : p.1 = 0 := by simpa using h
        have eg : prO other u p = u := if_pos h0
        rw [eg]
        exact q_nil (q_nil (loop_nx (by repeat (first | exact Weak.nil | apply Weak.eq | apply Weak.un)) rfl))
    · refine q_frz (xs := iB (prM size one other)) 3 (k := ?_)
      exact q_ret (e_me (R := R_folded) D (e_var 0) hr (a_cons (e_var 3) a_nil) h5) rfl
theorem ok_power_row {f : Addr} {fd : FuncData} (F : Fun K "power_row" "Frame.power_row" st_power_row f fd) (T : Bi mg) (S0 : Sf K C 0 "own_order" 0) (S1 : Sf K C 0 "own_rows" 1) (hb : Binds K fd ["self", "many"] []) : FnR P w K mg base CX0 1 f (spR C R_power_row) := by
  refine def_ok F sc_power_row hb (fun bs r h => ?_) (fun cdv A outer s H E bs r hr h => ?_)
  · obtain ⟨n, rows, size, units, m, row, rfl, _⟩ := h
    rfl
  · obtain ⟨n, rows, size, units, m, row, rfl, h0, h1, rfl⟩ := h
    exact q_ret (e_tuple true T.tuple (e_ixL (xs := rows.map il) (e_at S1 (e_var 0)) (e_mod (e_var 1) (e_at S0 (e_var 0)) h0) (atI_map il h1))) rfl
theorem ok_whole_row {f : Addr} {fd : FuncData} (F : Fun K "whole_row" "Frame.whole_row" st_whole_row f fd) (T : Bi mg) (S2 : Sf K C 0 "own_size" 2) (hb : Binds K fd ["self", "number"] []) : FnR P w K mg base CX0 1 f (spR C R_whole_row) := by
  refine def_ok F sc_whole_row hb (fun bs r h => ?_) (fun cdv A outer s H E bs r hr h => ?_)
  · obtain ⟨n, rows, size, units, m, rfl, _⟩ := h
    rfl
  · obtain ⟨n, rows, size, units, m, rfl, h1, h2, rfl⟩ := h
    have er : ((size : Int) - 1).toNat = size - 1 := by omega
    refine q_ret (e_cb (e_tup (a_cons (e_var 1) (a_star (e_of (f_cv (f_rep (xs := [.int 0]) (k := (size : Int) - 1) (e_lst (a_cons e_int a_nil) (by decide)) (e_sub (e_at S2 (e_var 0)) e_int) (by omega) (by omega) (by
      show 1 * _ ≤ _
      rw [sizeLine_eq, er]
      omega)) (by rw [er, flat_rep]))) a_nil)) ?_) ?_) rfl
    · simp only [List.length_cons, List.length_append, List.length_map, List.length_replicate, List.length_nil, sizeLine_eq]
      omega
    · rw [List.append_nil]
      rfl
theorem ok_z_times {f : Addr} {fd : FuncData} (F : Fun K "z_times" "z_times" st_z_times f fd) (D1 : Me P w K mg base C 0 "power_row" 1 (spR C R_power_row)) (D2 : Me P w K mg base C 0 "product" 2 (spR C R_product)) (hb : Binds K fd ["frame", "entries"] []) : FnR P w K mg base CX0 3 f (spR C R_z_times) := by
  refine def_ok F sc_z_times hb (fun bs r h => ?_) (fun cdv A outer s H E bs r hr h => ?_)
  · obtain ⟨n, rows, size, units, e, row, rfl, _⟩ := h
    rfl
  · obtain ⟨n, rows, size, units, e, row, rfl, h1, h2⟩ := h
    exact q_ret (e_me (R := R_product) D2 (e_var 0) hr (a_cons (e_var 1) (a_cons (e_me (R := R_power_row) D1 (e_var 0) (hr.mono (by omega)) (a_cons e_int a_nil) h1) a_nil)) h2) rfl
end
end Q
end

/-! text W11 -/
section
set_option Elab.async false
set_option linter.all false
set_option maxRecDepth 100000
/-! combined, is_in_rows, are_least, are_told_rows -/
namespace Q
open PySem PySem.Spec PyProof.Rows L2
def mulOk (i j : Int) : Bool := decide ((Builtin.Int.intBits i : Int) + (Builtin.Int.intBits j : Int) ≤ 134217728)
theorem mulOk_of {i j : Int} (h : mulOk i j = true) : CMulX i j := by
  unfold mulOk at h
  show _ ≤ _
  exact of_decide_eq_true h
abbrev st_combined : Stmt := top 43
theorem sc_combined : FnScope ["one", "other", "first", "last", "left", "right"] ["one", "other", "first", "last"] (defScope st_combined) := ⟨rfl, rfl, rfl, by decide +kernel, rfl, by decide +kernel, by decide +kernel⟩
def R_combined (bs : List B) (r : B) : Prop := ∃ k l xs ys f g, bs = [sq k xs, sq l ys, .int f, .int g] ∧ (∀ x ∈ xs, CMulX f x) ∧ (∀ y ∈ ys, CMulX g y) ∧ xs.length ≤ sizeLine ∧ r = il ((xs.zip ys).map fun p => f * p.1 + g * p.2)
/-! ### is_in_rows -/
abbrev rB (rows : List (List Int)) : B := .tup (rows.map it)
def isM : List (List Int × Nat) → List Int → Option Bool
  | [], _ => some true
  | (row, p) :: rest, left => if p < left.length ∧ p < row.length ∧ left.length ≤ 1000 ∧ row.getD p 0 ≠ 0 ∧ (row.getD p 0).natAbs.log2 < 9000 then
      (if (left.getD p 0).fmod (row.getD p 0) ≠ 0 then some false
      else if left.all (mulOk 1) && row.all (mulOk (-((left.getD p 0).fdiv (row.getD p 0)))) then isM rest ((left.zip row).map fun q => 1 * q.1 + -((left.getD p 0).fdiv (row.getD p 0)) * q.2) else none)
    else none
def R_is_in_rows (bs : List B) (r : B) : Prop := ∃ rows left b, bs = [rB rows, it left] ∧ isM rows.zipIdx left = some b ∧ r = .bl b
abbrev st_is_in_rows : Stmt := top 48
theorem sc_is_in_rows : FnScope ["rows", "entries", "left", "place", "row"] ["rows", "entries"] (defScope st_is_in_rows) := ⟨rfl, rfl, rfl, by decide +kernel, rfl, by decide +kernel, by decide +kernel⟩
theorem enumB_map {α : Type} (f : α → B) (xs : List α) : enumB (xs.map f) = xs.zipIdx.map fun p => B.tup [.int (p.2 : Int), f p.1] := by
  unfold enumB
  rw [List.zipIdx_map, List.map_map]
  rfl
theorem drop_cons {α : Type} {xs : List α} {i : Nat} {x : α} (h : xs[i]? = some x) : xs.drop i = x :: xs.drop (i + 1) := by
  obtain ⟨hl, e⟩ := List.getElem?_eq_some_iff.mp h
  rw [List.drop_eq_getElem_cons hl, e]
/-! ### are_least -/
def alOk (rows : List (List Int)) (p : List Int × Nat) : Bool := !((p.1.take p.2).any (· != 0)) && !decide (p.1.getD p.2 0 < 1) && (rows.take p.2).all fun a => decide (0 ≤ a.getD p.2 0) && decide (a.getD p.2 0 < p.1.getD p.2 0)
def alM (rows : List (List Int)) : Bool := rows.zipIdx.all (alOk rows)
def R_are_least (bs : List B) (r : B) : Prop := ∃ rows n, bs = [rB rows, .int n] ∧ (∀ row ∈ rows, row.length = rows.length) ∧ rows.length ≤ 1000 ∧ r = .bl (alM rows)
abbrev st_are_least : Stmt := top 49
theorem sc_are_least : FnScope ["rows", "size", "place", "row", "ahead"] ["rows", "size"] (defScope st_are_least) := ⟨rfl, rfl, rfl, by decide +kernel, rfl, by decide +kernel, by decide +kernel⟩
/-! ### are_told_rows -/
def known (x : B) : Prop := ∃ t, tyB x = some t
def toldRow (size : Nat) : B → Bool
  | .tup es => decide (es.length = size) && es.all isInteger
  | _ => false
def toldM (size : Nat) : B → Bool
  | .tup vs => decide (vs.length = size) && vs.all (toldRow size)
  | _ => false
def knownRow : B → Prop
  | .tup es => ∀ e ∈ es, known e
  | x => known x
def knownAll : B → Prop
  | .tup vs => ∀ v ∈ vs, knownRow v
  | x => known x
def R_are_told_rows (bs : List B) (r : B) : Prop := ∃ size : Nat, ∃ v, bs = [.int size, v] ∧ size ≤ 1000 ∧ knownAll v ∧ r = .bl (toldM size v)
abbrev st_are_told_rows : Stmt := top 56
theorem sc_are_told_rows : FnScope ["size", "value", "row", "entry"] ["size", "value"] (defScope st_are_told_rows) := ⟨rfl, rfl, rfl, by decide +kernel, rfl, by decide +kernel, by decide +kernel⟩
section
variable {P : Program} {w : World} {K : PySem.W.Frag} {mg : Str → Option Value} {base : Heap} {C : Ct}
theorem ok_combined {f : Addr} {fd : FuncData} (F : Fun K "combined" "combined" st_combined f fd) (T : Bi mg) (hb : Binds K fd ["one", "other", "first", "last"] []) : FnR P w K mg base CX0 1 f (spR C R_combined) := by
  refine def_ok F sc_combined hb (fun bs r h => ?_) (fun cdv A outer s H E bs r hr h => ?_)
  · obtain ⟨k, l, xs, ys, f, g, rfl, _⟩ := h
    rfl
  · obtain ⟨k, l, xs, ys, f, g, rfl, h1, h2, h3, rfl⟩ := h
    have e : il ((xs.zip ys).map fun p => f * p.1 + g * p.2) = .lst ((xs.zip ys).map fun p => B.int (f * p.1 + g * p.2)) := by
      show B.lst _ = _
      rw [iB, List.map_map]
      rfl
    rw [e]
    exact q_ret (e_of (f_lcA (own := [("left", 4), ("right", 5)]) (xs.zip ys) (fun p => .tup [.int p.1, .int p.2]) (fun p => [.va (sq k xs), .va (sq l ys), .va (.int f), .va (.int g), .va (.int p.1), .va (.int p.2)]) _ rfl sc_combined.nd
      (v_zipI (k := k) (l := l) T.zip (e_var 0) (e_var 1)) (blkOk_by (N := ["one", "other", "first", "last", "left", "right"]) (sc := defScope st_combined) (by decide +kernel)) (blk_of _ _) (fun _ _ _ _ _ z hz => g_pair 4 5 rfl sc_combined.nd)
      (fun _ _ _ _ _ z hz => e_add (e_mul (e_var 2) (e_var 4) (h1 _ (List.of_mem_zip hz).1)) (e_mul (e_var 3) (e_var 5) (h2 _ (List.of_mem_zip hz).2))) (by rw [List.length_zip]; omega))) rfl
theorem ok_is_in_rows {f : Addr} {fd : FuncData} (F : Fun K "is_in_rows" "is_in_rows" st_is_in_rows f fd) (T : Bi mg) (D : Dn P w K mg base "combined" 1 (spR C R_combined)) (hb : Binds K fd ["rows", "entries"] []) : FnR P w K mg base CX0 2 f (spR C R_is_in_rows) := by
  refine def_ok F sc_is_in_rows hb (fun bs r h => ?_) (fun cdv A outer s H E bs r hr h => ?_)
  · obtain ⟨rows, left, b, rfl, _⟩ := h
    rfl
  · obtain ⟨rows, left, b, rfl, hm, rfl⟩ := h
    refine q_set (x := il left) 2 (e_of (f_list false T.list (e_var 1))) sc_is_in_rows.nd ?_
    refine q_for (xs := rows.zipIdx.map fun p => B.tup [.int (p.2 : Int), it p.1]) (W := fun i ρ => ∃ l, ρ = [.va (rB rows), .va (it left), .va (il l), .un, .un] ∧ isM (rows.zipIdx.drop i) l = some b) PassesOwn.never rfl
      (v_cv (v_enum (k := false) T.enum (e_var 0)) (enumB_map it rows)) ⟨_, Weak.refl _, left, rfl, by simpa using hm⟩ (fun i x ρ' hx ⟨l, er, hl⟩ => ?_) (fun ρ' ⟨l, er, hl⟩ => ?_)
    · subst er
      rw [List.getElem?_map] at hx
      cases hz : rows.zipIdx[i]? with
      | none => rw [hz] at hx; cases hx
      | some p =>
        rw [hz] at hx
        cases hx
        obtain ⟨row, pl⟩ := p
        rw [drop_cons hz] at hl
        unfold isM at hl
        split at hl
        · rename_i hg
          obtain ⟨g1, g2, g3, g4, g5⟩ := hg
          refine ⟨_, _, g_pair 3 4 rfl sc_is_in_rows.nd, ?_⟩
          have a1 : atI (iB l) (pl : Int) = some (.int (l.getD pl 0)) := atI_iB (atI_D g1)
          have a2 : atI (iB row) (pl : Int) = some (.int (row.getD pl 0)) := atI_iB (atI_D g2)
          refine q_if (k := !decide ((l.getD pl 0).fmod (row.getD pl 0) = 0)) (c_ne (e_mod (e_ixL (xs := iB l) (e_var 2) (e_var 3) a1) (e_ixT (xs := iB row) (e_var 4) (e_var 3) a2) g4) e_int) (fun h => ?_) (fun h => ?_)
          · rw [if_pos (show (l.getD pl 0).fmod (row.getD pl 0) ≠ 0 by simpa using h)] at hl
            cases hl
            exact q_ret e_bl rfl
          · rw [if_neg (show ¬ (l.getD pl 0).fmod (row.getD pl 0) ≠ 0 by simpa using h)] at hl
            split at hl
            · rename_i hm2
              rw [Bool.and_eq_true, List.all_eq_true, List.all_eq_true] at hm2
              refine q_nil (q_set (x := il ((l.zip row).map fun q => 1 * q.1 + -((l.getD pl 0).fdiv (row.getD pl 0)) * q.2)) 2 (e_call (R := R_combined) D hr (a_cons (e_var 2) (a_cons (e_var 4) (a_cons e_int (a_cons (e_neg (e_div (e_ixL (xs := iB l) (e_var 2) (e_var 3) a1) (e_ixT (xs := iB row) (e_var 4) (e_var 3) a2) ⟨g4, g5⟩)) a_nil)))) ⟨true, false, l, row, 1, _, rfl, fun x hx => mulOk_of (hm2.1 x hx), fun y hy => mulOk_of (hm2.2 y hy), by rw [sizeLine_eq]; omega, rfl⟩) sc_is_in_rows.nd ?_)
              exact q_nil (loop_nx (by repeat (first | exact Weak.nil | apply Weak.eq | apply Weak.un)) ⟨_, rfl, hl⟩)
            · cases hl
        · cases hl
    · subst er
      rw [List.length_map, List.drop_length] at hl
      cases hl
      exact q_ret e_bl rfl
theorem ok_are_least {f : Addr} {fd : FuncData} (F : Fun K "are_least" "are_least" st_are_least f fd) (T : Bi mg) (hb : Binds K fd ["rows", "size"] []) : FnR P w K mg base CX0 1 f (spR C R_are_least) := by
  refine def_ok F sc_are_least hb (fun bs r h => ?_) (fun cdv A outer s H E bs r hr h => ?_)
  · obtain ⟨rows, n, rfl, _⟩ := h
    rfl
  · obtain ⟨rows, n, rfl, hlen, hl, rfl⟩ := h
    refine q_for (xs := rows.zipIdx.map fun p => B.tup [.int (p.2 : Int), it p.1]) (W := fun i ρ => ρ = [.va (rB rows), .va (.int n), .un, .un, .un] ∧ (rows.zipIdx.drop i).all (alOk rows) = alM rows) PassesOwn.never rfl
      (v_cv (v_enum (k := false) T.enum (e_var 0)) (enumB_map it rows)) ⟨_, Weak.refl _, rfl, rfl⟩ (fun i x ρ' hx ⟨er, hm⟩ => ?_) (fun ρ' ⟨er, hm⟩ => ?_)
    · subst er
      rw [List.getElem?_map] at hx
      cases hz : rows.zipIdx[i]? with
      | none => rw [hz] at hx; cases hx
      | some p =>
        rw [hz] at hx
        cases hx
        obtain ⟨row, pl⟩ := p
        rw [drop_cons hz, List.all_cons] at hm
        obtain ⟨q1, q2, _⟩ := mem_zipIdx (List.mem_of_getElem? hz)
        have q1 : pl < rows.length := q1
        have q2 : row.length = rows.length := hlen row q2
        have lr : (iB row).length = row.length := List.length_map ..
        have lR : (rows.map it).length = rows.length := List.length_map ..
        have a1 : atI (iB row) (pl : Int) = some (.int (row.getD pl 0)) := atI_iB (atI_D (by omega))
        have c1 : cut (iB row) none (some (pl : Int)) = iB (row.take pl) := by rw [cut_take _ _ (by rw [lr]; omega)]; exact List.map_take.symm
        have c2 : cut (rows.map it) none (some (pl : Int)) = (rows.take pl).map it := by rw [cut_take _ _ (by rw [lR]; omega)]; exact List.map_take.symm
        refine ⟨_, _, g_pair 2 3 rfl sc_are_least.nd, ?_⟩
        refine q_if (k := (row.take pl).any (· != 0) || decide (row.getD pl 0 < 1)) (c_w (w_or (c_val (e_anyT rfl T.any (e_cb (e_slT (xs := iB row) (i := none) (j := some (pl : Int)) (e_var 3) i_none (i_some (e_var 2))) (by rw [c1])))) (fun _ => w_or1 (c_lt (e_ixT (xs := iB row) (e_var 3) (e_var 2) a1) e_int)) (fun _ => rfl))) (fun h => ?_) (fun h => ?_)
        · refine q_ret e_bl ?_
          have : alOk rows (row, pl) = false := by
            unfold alOk
            rcases Bool.or_eq_true_iff.mp h with h1 | h1
            · show (!(row.take pl).any (· != 0) && _ && _) = false
              rw [h1]
              rfl
            · show (_ && !decide (row.getD pl 0 < 1) && _) = false
              rw [h1, Bool.not_true, Bool.and_false, Bool.false_and]
          rw [this, Bool.false_and] at hm
          show B.bl false = .bl (alM rows)
          rw [← hm]
        · refine q_nil (q_if (k := !((rows.take pl).map fun a => decide (0 ≤ a.getD pl 0) && decide (a.getD pl 0 < row.getD pl 0)).all id) (c_not (c_val (e_all rfl T.all (e_of (f_cv (f_lcA (own := [("ahead", 4)]) (rows.take pl) it (fun a => [.va (rB rows), .va (.int n), .va (.int (pl : Int)), .va (it row), .va (it a)]) (fun a => .bl (decide (0 ≤ a.getD pl 0) && decide (a.getD pl 0 < row.getD pl 0))) rfl sc_are_least.nd
            (v_tup (e_cb (e_slT (xs := rows.map it) (i := none) (j := some (pl : Int)) (e_var 0) i_none (i_some (e_var 2))) (by rw [c2]))) (blkOk_by (N := ["rows", "size", "place", "row", "ahead"]) (sc := defScope st_are_least) (by decide +kernel)) (blk_of _ _) (fun _ _ _ _ _ z hz => g_name 4 sc_are_least.nd)
            (fun _ _ _ _ _ a ha => e_chain (g := fun i j => decide (i ≤ j)) (g' := fun i j => decide (i < j)) op_le op_lt e_int (e_ixT (xs := iB a) (e_var 4) (e_var 2) (atI_iB (atI_D (by rw [hlen a (List.mem_of_mem_take ha)]; exact q1)))) (e_ixT (xs := iB row) (e_var 3) (e_var 2) a1)) (by rw [List.length_take, sizeLine_eq]; omega)) (by rw [List.map_map]; rfl)))))) (fun h2 => ?_) (fun h2 => ?_))
          · refine q_ret e_bl ?_
            have : alOk rows (row, pl) = false := by
              unfold alOk
              rw [List.all_map] at h2
              have h3 : ((rows.take pl).all fun a => decide (0 ≤ a.getD pl 0) && decide (a.getD pl 0 < row.getD pl 0)) = false := by simpa using h2
              show (_ && List.all _ _) = false
              rw [h3, Bool.and_false]
            rw [this, Bool.false_and] at hm
            show B.bl false = .bl (alM rows)
            rw [← hm]
          · have : alOk rows (row, pl) = true := by
              unfold alOk
              rw [List.all_map] at h2
              have h3 : ((rows.take pl).all fun a => decide (0 ≤ a.getD pl 0) && decide (a.getD pl 0 < row.getD pl 0)) = true := by simpa using h2
              rw [Bool.or_eq_false_iff] at h
              show (_ && List.all _ _) = true
              rw [h3, h.1, h.2]
              rfl
            rw [this, Bool.true_and] at hm
            exact q_nil (q_nil (loop_nx (by repeat (first | exact Weak.nil | apply Weak.eq | apply Weak.un)) ⟨rfl, hm⟩))
    · subst er
      rw [List.length_map, List.drop_length] at hm
      refine q_ret e_bl ?_
      show B.bl true = .bl (alM rows)
      rw [← hm]
      rfl
theorem ok_are_told_rows {f : Addr} {fd : FuncData} (F : Fun K "are_told_rows" "are_told_rows" st_are_told_rows f fd) (T : Bi mg) (D : Dn P w K mg base "is_integer" 2 (spR C R_is_integer)) (hb : Binds K fd ["size", "value"] []) : FnR P w K mg base CX0 3 f (spR C R_are_told_rows) := by
  refine def_ok F sc_are_told_rows hb (fun bs r h => ?_) (fun cdv A outer s H E bs r hr h => ?_)
  · obtain ⟨size, v, rfl, _⟩ := h
    rfl
  · obtain ⟨size, v, rfl, hsz, hk, rfl⟩ := h
    by_cases hv : ∃ vs, v = .tup vs
    · obtain ⟨vs, rfl⟩ := hv
      have hk' : ∀ v ∈ vs, knownRow v := hk
      refine q_if (k := false || !decide ((vs.length : Int) = (size : Int))) (c_w (w_or (c_not (k := true) (c_val (e_isi T.isi (e_var 1) (e_ty "tuple" T.tuple (by decide +kernel)) (t := "tuple") rfl (by decide +kernel)))) (fun _ => w_or1 (c_ne (e_len false T.len (e_var 1)) (e_var 0))) (fun z => nomatch z))) (fun h => ?_) (fun h => ?_)
      · refine q_ret e_bl ?_
        have h1 : ¬ vs.length = size := by
          intro z
          rw [Bool.false_or, z] at h
          simp at h
        show B.bl false = .bl (decide (vs.length = size) && _)
        rw [decide_eq_false h1, Bool.false_and]
      · have h1 : vs.length = size := by
          rw [Bool.false_or] at h
          have h2 : decide ((vs.length : Int) = (size : Int)) = true := by simpa using h
          have := of_decide_eq_true h2
          omega
        have et : toldM size (.tup vs) = vs.all (toldRow size) := by
          show (decide (vs.length = size) && _) = _
          rw [decide_eq_true h1, Bool.true_and]
        rw [et]
        refine q_nil (q_for (xs := vs) (W := fun i ρ => ρ = [.va (.int size), .va (.tup vs), .un, .un] ∧ (vs.drop i).all (toldRow size) = vs.all (toldRow size)) PassesOwn.never rfl (v_tup (e_var 1)) ⟨_, Weak.refl _, rfl, rfl⟩ (fun i x ρ' hx ⟨er, hm⟩ => ?_) (fun ρ' ⟨er, hm⟩ => ?_))
        · subst er
          rw [drop_cons hx, List.all_cons] at hm
          refine ⟨_, _, g_name 2 sc_are_told_rows.nd, ?_⟩
          have hkx := hk' x (List.mem_of_getElem? hx)
          by_cases hv : ∃ es, x = .tup es
          · obtain ⟨es, rfl⟩ := hv
            have hke : ∀ e ∈ es, known e := hkx
            by_cases hes : es.length = size
            · refine q_if (k := false || (!decide ((es.length : Int) = (size : Int)) || !(es.map isInteger).all id)) (c_w (w_or (c_not (k := true) (c_val (e_isi T.isi (e_var 2) (e_ty "tuple" T.tuple (by decide +kernel)) (t := "tuple") rfl (by decide +kernel)))) (fun _ => w_or (c_ne (e_len false T.len (e_var 2)) (e_var 0)) (fun _ => w_or1 (c_not (c_val (e_all rfl T.all (e_of (f_cv (f_lcA (own := [("entry", 3)]) es id (fun a => [.va (.int size), .va (.tup vs), .va (.tup es), .va a]) (fun a => .bl (isInteger a)) rfl sc_are_told_rows.nd
                (v_cv (v_tup (e_var 2)) (List.map_id es).symm) (blkOk_by (N := ["size", "value", "row", "entry"]) (sc := defScope st_are_told_rows) (by decide +kernel)) (blk_of _ _) (fun _ _ _ _ _ z hz => g_name 3 sc_are_told_rows.nd)
                (fun _ _ _ _ _ a ha => by
                  obtain ⟨t, ht⟩ := hke a ha
                  exact e_call (R := R_is_integer) D hr (a_cons (e_var 3) a_nil) ⟨a, t, rfl, ht, rfl⟩) (by rw [sizeLine_eq]; omega)) (by rw [List.map_map]; rfl))))))) (fun _ => rfl)) (fun z => nomatch z))) (fun h => ?_) (fun h => ?_)
              · refine q_ret e_bl ?_
                have h2 : toldRow size (.tup es) = false := by
                  show (decide (es.length = size) && es.all isInteger) = false
                  rw [decide_eq_true hes, Bool.true_and]
                  rw [Bool.false_or, hes] at h
                  rw [List.all_map] at h
                  simpa using h
                rw [h2, Bool.false_and] at hm
                show B.bl false = .bl _
                rw [← hm]
              · have h2 : toldRow size (.tup es) = true := by
                  show (decide (es.length = size) && es.all isInteger) = true
                  rw [decide_eq_true hes, Bool.true_and]
                  rw [Bool.false_or, hes] at h
                  rw [List.all_map] at h
                  simpa using h
                rw [h2, Bool.true_and] at hm
                exact q_nil (q_nil (loop_nx (by repeat (first | exact Weak.nil | apply Weak.eq | apply Weak.un)) ⟨rfl, hm⟩))
            · have hne : decide ((es.length : Int) = (size : Int)) = false := decide_eq_false (by omega)
              refine q_if (k := false || ((!decide ((es.length : Int) = (size : Int))) || true)) (c_w (w_or (c_not (k := true) (c_val (e_isi T.isi (e_var 2) (e_ty "tuple" T.tuple (by decide +kernel)) (t := "tuple") rfl (by decide +kernel)))) (fun _ => w_or (c_ne (e_len false T.len (e_var 2)) (e_var 0)) (fun z => by rw [hne] at z; cases z) (fun _ => rfl)) (fun z => nomatch z))) (fun h => ?_) (fun h => ?_)
              · refine q_ret e_bl ?_
                have h2 : toldRow size (.tup es) = false := by
                  show (decide (es.length = size) && es.all isInteger) = false
                  rw [decide_eq_false hes, Bool.false_and]
                rw [h2, Bool.false_and] at hm
                show B.bl false = .bl _
                rw [← hm]
              · rw [hne] at h
                cases h
          · have h2 : toldRow size x = false := by cases x <;> first | rfl | exact absurd ⟨_, rfl⟩ hv
            have hkx' : known x := by cases x <;> first | exact hkx | exact absurd ⟨_, rfl⟩ hv
            obtain ⟨t, ht⟩ := hkx'
            have hkt : kitB t "tuple" = some false := by cases x <;> first | (cases ht; done) | (cases Option.some.inj ht; first | decide +kernel | exact absurd ⟨_, rfl⟩ hv)
            refine q_if (k := true || true) (c_w (w_or (l := true) (c_not (k := false) (c_val (e_isi T.isi (e_var 2) (e_ty "tuple" T.tuple (by decide +kernel)) ht hkt))) (fun z => nomatch z) (fun _ => rfl))) (fun h => ?_) (fun h => nomatch h)
            refine q_ret e_bl ?_
            rw [h2, Bool.false_and] at hm
            show B.bl false = .bl _
            rw [← hm]
        · subst er
          rw [List.drop_length] at hm
          refine q_ret e_bl ?_
          show B.bl true = .bl _
          rw [← hm]
          rfl
    · have h2 : toldM size v = false := by cases v <;> first | rfl | exact absurd ⟨_, rfl⟩ hv
      have hkx' : known v := by cases v <;> first | exact hk | exact absurd ⟨_, rfl⟩ hv
      obtain ⟨t, ht⟩ := hkx'
      have hkt : kitB t "tuple" = some false := by cases v <;> first | (cases ht; done) | (cases Option.some.inj ht; first | decide +kernel | exact absurd ⟨_, rfl⟩ hv)
      refine q_if (k := true || true) (c_w (w_or (l := true) (c_not (k := false) (c_val (e_isi T.isi (e_var 1) (e_ty "tuple" T.tuple (by decide +kernel)) ht hkt))) (fun z => nomatch z) (fun _ => rfl))) (fun h => ?_) (fun h => nomatch h)
      refine q_ret e_bl ?_
      rw [h2]
      rfl
end
end Q
end

/-! text W12 -/
section
set_option Elab.async false
set_option linter.all false
set_option maxRecDepth 100000
/-! are_ideal_rows, is_entries_of, require_order, require_ideal_order, Kept, Made, Turn -/
namespace Q
open PySem PySem.Spec PyProof.Rows L2
/-- what the text's classes are: 0 Frame, 1 Kept, 2 Turn, 3 Made, 4 Ideal -/
structure CF (K : PySem.W.Frag) (mg : Str → Option Value) (C : Ct) : Prop where
  kept : mg "Kept" = some (.ref (C.cls 1))
  turn : mg "Turn" = some (.ref (C.cls 2))
  made : mg "Made" = some (.ref (C.cls 3))
  ideal : mg "Ideal" = some (.ref (C.cls 4))
  sc : ∀ c, c < 5 → SlX.SCls K (C.cls c) ∧ SlX.SIsi K (C.cls c)
  isT : ∀ t, t ∈ ["NoneType", "bool", "int", "str", "tuple", "list"] → ∀ c, c < 5 → PySem.W.kitOne K (.type t) (.ref (C.cls c)) = some false
  isC : ∀ c d, c < 5 → d < 5 → PySem.W.kitOne K (.ref (C.cls c)) (.ref (C.cls d)) = some (decide (c = d))
theorem tyB_mem {x : B} {t : String} (h : tyB x = some t) : t ∈ ["NoneType", "bool", "int", "str", "tuple", "list"] := by
  cases x <;> first | (cases h; done) | (cases Option.some.inj h; simp)
def R_are_ideal_rows (bs : List B) (r : B) : Prop := ∃ n rows size units v, bs = [frB n rows size units, v] ∧ size ≤ 1000 ∧ knownAll v ∧
  ((toldM size v = false ∧ r = .bl false) ∨ ∃ vs : List (List Int), v = rB vs ∧ toldM size v = true ∧ (∀ row ∈ vs, row.length = vs.length) ∧ ((alM vs = false ∧ r = .bl false) ∨
    (alM vs = true ∧ ∃ (z : List Int → List Int) (b : List Int → Bool), (∀ row ∈ vs, R_z_times [frB n rows size units, it row] (it (z row)) ∧ R_is_in_rows [rB vs, it (z row)] (.bl (b row))) ∧ r = .bl (vs.all b))))
abbrev st_are_ideal_rows : Stmt := top 57
theorem sc_are_ideal_rows : FnScope ["frame", "value", "row"] ["frame", "value"] (defScope st_are_ideal_rows) := ⟨rfl, rfl, rfl, by decide +kernel, rfl, by decide +kernel, by decide +kernel⟩
def R_is_entries_of (bs : List B) (r : B) : Prop := ∃ n rows size units es, bs = [frB n rows size units, it es] ∧ es.length ≤ 1000 ∧ r = .bl (decide (es.length = size) && es.all fun e => isInteger (.int e))
abbrev st_is_entries_of : Stmt := top 23
theorem sc_is_entries_of : FnScope ["frame", "value", "entry"] ["frame", "value"] (defScope st_is_entries_of) := ⟨rfl, rfl, rfl, by decide +kernel, rfl, by decide +kernel, by decide +kernel⟩
def R_require_order (bs : List B) (r : B) : Prop := ∃ i : Int, bs = [.int i] ∧ 1 ≤ i ∧ i ≤ 60 ∧ r = .non
abbrev st_require_order : Stmt := top 19
theorem sc_require_order : FnScope ["value"] ["value"] (defScope st_require_order) := ⟨rfl, rfl, rfl, by decide +kernel, rfl, by decide +kernel, by decide +kernel⟩
def R_require_ideal_order (bs : List B) (r : B) : Prop := ∃ (i : Int) (units : List Int), bs = [.int i] ∧ 1 ≤ i ∧ i ≤ 60 ∧ R_units_list [.int i] (il units) ∧ units.length ≤ 8 ∧ r = .non
abbrev st_require_ideal_order : Stmt := top 53
theorem sc_require_ideal_order : FnScope ["value"] ["value"] (defScope st_require_ideal_order) := ⟨rfl, rfl, rfl, by decide +kernel, rfl, by decide +kernel, by decide +kernel⟩
def R_kept (bs fs : List B) : Prop := ∃ x y, bs = [x, y] ∧ fs = [y, x]
abbrev st_kept : Stmt := met 28 1
theorem sc_kept : FnScope ["self", "frame", "entries"] ["self", "frame", "entries"] (defScope st_kept) := ⟨rfl, rfl, rfl, by decide +kernel, rfl, by decide +kernel, by decide +kernel⟩
def R_made (bs fs : List B) : Prop := ∃ x y, bs = [x, y] ∧ fs = [x, y]
abbrev st_made : Stmt := met 54 1
theorem sc_made : FnScope ["self", "frame", "rows"] ["self", "frame", "rows"] (defScope st_made) := ⟨rfl, rfl, rfl, by decide +kernel, rfl, by decide +kernel, by decide +kernel⟩
theorem small_integer {i : Int} (h1 : 1 ≤ i) (h2 : i ≤ 60) : isInteger (.int i) = true := by
  have a : decide (-(10 ^ 60) < i) = true := decide_eq_true (by omega)
  have b : decide (i < 10 ^ 60) = true := decide_eq_true (by omega)
  show (_ && _) = true
  rw [a, b]
  rfl
section
variable {P : Program} {w : World} {K : PySem.W.Frag} {mg : Str → Option Value} {base : Heap} {C : Ct}
theorem ok_are_ideal_rows {f : Addr} {fd : FuncData} (F : Fun K "are_ideal_rows" "are_ideal_rows" st_are_ideal_rows f fd) (T : Bi mg) (S2 : Sf K C 0 "own_size" 2) (D1 : Dn P w K mg base "are_told_rows" 3 (spR C R_are_told_rows)) (D2 : Dn P w K mg base "are_least" 1 (spR C R_are_least))
    (D3 : Dn P w K mg base "z_times" 3 (spR C R_z_times)) (D4 : Dn P w K mg base "is_in_rows" 2 (spR C R_is_in_rows)) (hb : Binds K fd ["frame", "value"] []) : FnR P w K mg base CX0 4 f (spR C R_are_ideal_rows) := by
  refine def_ok F sc_are_ideal_rows hb (fun bs r h => ?_) (fun cdv A outer s H E bs r hr h => ?_)
  · obtain ⟨n, rows, size, units, v, rfl, _⟩ := h
    rfl
  · obtain ⟨n, rows, size, units, v, rfl, hsz, hk, hh⟩ := h
    rcases hh with ⟨h1, rfl⟩ | ⟨vs, rfl, h1, hlen, hh⟩
    · refine q_if (k := !false || true) (c_w (w_or (l := true) (c_not (k := false) (c_val (e_call (R := R_are_told_rows) D1 hr (a_cons (e_at S2 (e_var 0)) (a_cons (e_var 1) a_nil)) ⟨size, v, rfl, hsz, hk, by rw [h1]⟩))) (fun z => nomatch z) (fun _ => rfl))) (fun h => ?_) (fun h => nomatch h)
      exact q_ret e_bl rfl
    · have hv : vs.length = size := by
        have h2 : (decide ((vs.map it).length = size) && _) = true := h1
        rw [Bool.and_eq_true, decide_eq_true_iff, List.length_map] at h2
        exact h2.1
      refine q_if (k := !true || !alM vs) (c_w (w_or (l := !alM vs) (c_not (k := true) (c_val (e_call (R := R_are_told_rows) D1 hr (a_cons (e_at S2 (e_var 0)) (a_cons (e_var 1) a_nil)) ⟨size, _, rfl, hsz, hk, by rw [h1]⟩)))
        (fun _ => w_or1 (c_not (c_val (e_call (R := R_are_least) D2 (hr.mono (by omega)) (a_cons (e_var 1) (a_cons (e_at S2 (e_var 0)) a_nil)) ⟨vs, _, rfl, hlen, by omega, rfl⟩)))) (fun z => nomatch z))) (fun h => ?_) (fun h => ?_)
      · have ha : alM vs = false := by simpa using h
        rcases hh with ⟨_, rfl⟩ | ⟨ha2, _⟩
        · exact q_ret e_bl rfl
        · rw [ha] at ha2
          cases ha2
      · have ha : alM vs = true := by simpa using h
        rcases hh with ⟨ha2, _⟩ | ⟨_, z, b, hz, rfl⟩
        · rw [ha] at ha2
          cases ha2
        · refine q_nil (q_ret (e_cb (e_all (ks := vs.map b) rfl T.all (e_of (f_cv (f_lcA (own := [("row", 2)]) vs it (fun a => [.va (frB n rows size units), .va (rB vs), .va (it a)]) (fun a => .bl (b a)) rfl sc_are_ideal_rows.nd
            (v_tup (e_var 1)) (blkOk_by (N := ["frame", "value", "row"]) (sc := defScope st_are_ideal_rows) (by decide +kernel)) (blk_of _ _) (fun _ _ _ _ _ z hz => g_name 2 sc_are_ideal_rows.nd)
            (fun _ _ _ _ _ a ha => e_call (R := R_is_in_rows) D4 (hr.mono (by omega)) (a_cons (e_var 1) (a_cons (e_call (R := R_z_times) D3 hr (a_cons (e_var 0) (a_cons (e_var 2) a_nil)) (hz a ha).1) a_nil)) (hz a ha).2) (by rw [sizeLine_eq]; omega)) (by rw [List.map_map]; rfl)))) (by rw [List.all_map]; rfl)) rfl)
theorem ok_is_entries_of {f : Addr} {fd : FuncData} (F : Fun K "is_entries_of" "is_entries_of" st_is_entries_of f fd) (T : Bi mg) (S2 : Sf K C 0 "own_size" 2) (D : Dn P w K mg base "is_integer" 2 (spR C R_is_integer)) (hb : Binds K fd ["frame", "value"] []) : FnR P w K mg base CX0 3 f (spR C R_is_entries_of) := by
  refine def_ok F sc_is_entries_of hb (fun bs r h => ?_) (fun cdv A outer s H E bs r hr h => ?_)
  · obtain ⟨n, rows, size, units, es, rfl, _⟩ := h
    rfl
  · obtain ⟨n, rows, size, units, es, rfl, hl, rfl⟩ := h
    have le : (iB es).length = es.length := List.length_map ..
    have ek : decide (((iB es).length : Int) = (size : Int)) = decide (es.length = size) := by
      rw [le]
      by_cases h : es.length = size
      · rw [decide_eq_true h, decide_eq_true (by omega)]
      · rw [decide_eq_false h, decide_eq_false (by omega)]
    refine q_ret (e_cb (e_and (k := true) (l := decide (es.length = size) && es.all fun e => isInteger (.int e)) (e_isi T.isi (e_var 1) (e_ty "tuple" T.tuple (by decide +kernel)) (t := "tuple") rfl (by decide +kernel)) (fun _ => e_and (k := decide (es.length = size)) (e_cb (e_eq (e_len false T.len (e_var 1)) (e_at S2 (e_var 0))) (by rw [ek]))
      (fun _ => e_one (e_cb (e_all (ks := es.map fun e => isInteger (.int e)) rfl T.all (e_of (f_cv (f_lcA (own := [("entry", 2)]) es B.int (fun a => [.va (frB n rows size units), .va (it es), .va (.int a)]) (fun a => .bl (isInteger (.int a))) rfl sc_is_entries_of.nd
        (v_tup (e_var 1)) (blkOk_by (N := ["frame", "value", "entry"]) (sc := defScope st_is_entries_of) (by decide +kernel)) (blk_of _ _) (fun _ _ _ _ _ z hz => g_name 2 sc_is_entries_of.nd)
        (fun _ _ _ _ _ a ha => e_call (R := R_is_integer) D hr (a_cons (e_var 2) a_nil) ⟨_, "int", rfl, rfl, rfl⟩) (by rw [sizeLine_eq]; omega)) (by rw [List.map_map]; rfl)))) (by rw [List.all_map]; rfl))) (fun _ => rfl)) (fun z => nomatch z)) (by rw [Bool.true_and])) rfl
theorem ok_require_order {f : Addr} {fd : FuncData} (F : Fun K "require_order" "require_order" st_require_order f fd) (T : Bi mg) (D : Dn P w K mg base "is_integer" 2 (spR C R_is_integer)) (hb : Binds K fd ["value"] []) : FnR P w K mg base CX0 3 f (spR C R_require_order) := by
  refine def_ok F sc_require_order hb (fun bs r h => ?_) (fun cdv A outer s H E bs r hr h => ?_)
  · obtain ⟨i, rfl, _⟩ := h
    rfl
  · obtain ⟨i, rfl, h1, h2, rfl⟩ := h
    obtain ⟨tm, hm⟩ := T.mof
    refine q_if (k := !true || !(decide (1 ≤ i) && decide (i ≤ 60))) (c_w (w_or (c_not (k := true) (c_val (e_call (R := R_is_integer) D hr (a_cons (e_var 0) a_nil) ⟨_, "int", rfl, rfl, by rw [small_integer h1 h2]⟩))) (fun _ => w_or1 (c_not (c_chain (g := fun i j => decide (i ≤ j)) (g' := fun i j => decide (i ≤ j)) op_le op_le e_int (e_var 0) (e_gint hm)))) (fun z => nomatch z))) (fun h => ?_) (fun h => ?_)
    · rw [decide_eq_true h1, decide_eq_true h2] at h
      cases h
    · exact q_nil (q_nil rfl)
theorem ok_require_ideal_order {f : Addr} {fd : FuncData} (F : Fun K "require_ideal_order" "require_ideal_order" st_require_ideal_order f fd) (T : Bi mg) (D : Dn P w K mg base "is_integer" 2 (spR C R_is_integer)) (D2 : Dn P w K mg base "units_list" 2 (spR C R_units_list)) (hb : Binds K fd ["value"] []) : FnR P w K mg base CX0 3 f (spR C R_require_ideal_order) := by
  refine def_ok F sc_require_ideal_order hb (fun bs r h => ?_) (fun cdv A outer s H E bs r hr h => ?_)
  · obtain ⟨i, units, rfl, _⟩ := h
    rfl
  · obtain ⟨i, units, rfl, h1, h2, hu, h3, rfl⟩ := h
    obtain ⟨tm, hm⟩ := T.moi
    obtain ⟨tr, hmr⟩ := T.mr
    have lu : (iB units).length = units.length := List.length_map ..
    refine q_if (k := !true || (!(decide (1 ≤ i) && decide (i ≤ 60)) || decide (8 < ((iB units).length : Int)))) (c_w (w_or (c_not (k := true) (c_val (e_call (R := R_is_integer) D hr (a_cons (e_var 0) a_nil) ⟨_, "int", rfl, rfl, by rw [small_integer h1 h2]⟩))) (fun _ => w_or (c_not (c_chain (g := fun i j => decide (i ≤ j)) (g' := fun i j => decide (i ≤ j)) op_le op_le e_int (e_var 0) (e_gint hm)))
      (fun _ => w_or1 (c_gt (e_len true T.len (e_call (R := R_units_list) D2 hr (a_cons (e_var 0) a_nil) hu)) (e_gint hmr))) (fun _ => rfl)) (fun z => nomatch z))) (fun h => ?_) (fun h => ?_)
    · rw [decide_eq_true h1, decide_eq_true h2, decide_eq_false (show ¬ 8 < ((iB units).length : Int) by rw [lu]; omega)] at h
      cases h
    · exact q_nil (q_nil rfl)
theorem ok_kept {f : Addr} {fd : FuncData} (F : Fun K "__init__" "Kept.__init__" st_kept f fd) (S0 : Sf K C 1 "own_entries" 0) (S1 : Sf K C 1 "own_frame" 1) (hb : Binds K fd ["self", "frame", "entries"] []) : FnR P w K mg base CX0 1 f (spI C 1 R_kept) := by
  refine init_ok F sc_kept hb (fun bs r h => ?_) (fun cdv A outer s H E dx bs fs hr h => ?_)
  · obtain ⟨x, y, rfl, rfl⟩ := h
    exact ⟨rfl, fun z => nomatch z⟩
  · obtain ⟨x, y, rfl, rfl⟩ := h
    exact q_at S0 (e_var 2) (q_at S1 (e_var 1) (q_nil ⟨_, rfl⟩))
theorem ok_made {f : Addr} {fd : FuncData} (F : Fun K "__init__" "Made.__init__" st_made f fd) (S0 : Sf K C 3 "own_frame" 0) (S1 : Sf K C 3 "own_rows" 1) (hb : Binds K fd ["self", "frame", "rows"] []) : FnR P w K mg base CX0 1 f (spI C 3 R_made) := by
  refine init_ok F sc_made hb (fun bs r h => ?_) (fun cdv A outer s H E dx bs fs hr h => ?_)
  · obtain ⟨x, y, rfl, rfl⟩ := h
    exact ⟨rfl, fun z => nomatch z⟩
  · obtain ⟨x, y, rfl, rfl⟩ := h
    exact q_at S0 (e_var 1) (q_at S1 (e_var 2) (q_nil ⟨_, rfl⟩))
end
end Q
end

/-! text W13 -/
section
set_option Elab.async false
set_option linter.all false
set_option maxRecDepth 100000
/-! Turn -/
namespace Q
open PySem PySem.Spec PyProof.Rows L2
/-- a Turn's, a Kept's fields -/
def R_turn_init (bs fs : List B) : Prop := (∃ n rows size units y x, bs = [x, .ob 1 [y, frB n rows size units]] ∧ fs = [y, frB n rows size units, .int n]) ∨
  (∃ n rows, ∃ size : Nat, ∃ units es, bs = [.int n, it es] ∧ 1 ≤ n ∧ n ≤ 60 ∧ R_frame_init [.int n] [.int n, lB rows, .int (size : Int), il units] ∧ es.length = size ∧ es.length ≤ 1000 ∧ es.all (fun e => isInteger (.int e)) = true ∧ fs = [it es, frB n rows size units, .int n])
abbrev st_turn_init : Stmt := met 38 1
theorem sc_turn_init : FnScope ["self", "order", "entries", "frame", "told"] ["self", "order", "entries"] (defScope st_turn_init) := ⟨rfl, rfl, rfl, by decide +kernel, rfl, by decide +kernel, by decide +kernel⟩
def R_turn_with (bs : List B) (r : B) : Prop := ∃ n rows size units y, bs = [frB n rows size units, y] ∧ r = .ob 2 [y, frB n rows size units, .int n]
abbrev st_turn_with : Stmt := top 39
theorem sc_turn_with : FnScope ["frame", "entries"] ["frame", "entries"] (defScope st_turn_with) := ⟨rfl, rfl, rfl, by decide +kernel, rfl, by decide +kernel, by decide +kernel⟩
def R_turn_whole (bs : List B) (r : B) : Prop := ∃ n rows, ∃ size : Nat, ∃ units m, bs = [.cl 2, .int n, .int m] ∧ 1 ≤ n ∧ n ≤ 60 ∧ isInteger (.int m) = true ∧ R_frame_init [.int n] [.int n, lB rows, .int (size : Int), il units] ∧ 1 ≤ size ∧ size ≤ 200 ∧
  r = .ob 2 [it (m :: List.replicate (size - 1) 0), frB n rows size units, .int n]
abbrev st_turn_whole : Stmt := met 38 3
theorem sc_turn_whole : FnScope ["cls", "order", "integer", "frame"] ["cls", "order", "integer"] (defScope st_turn_whole) := ⟨rfl, rfl, rfl, by decide +kernel, rfl, by decide +kernel, by decide +kernel⟩
section
variable {P : Program} {w : World} {K : PySem.W.Frag} {mg : Str → Option Value} {base : Heap} {C : Ct}
theorem ok_turn_init {f : Addr} {fd : FuncData} (F : Fun K "__init__" "Turn.__init__" st_turn_init f fd) (T : Bi mg) (G : CF K mg C) (k0 : Sf K C 1 "own_entries" 0) (k1 : Sf K C 1 "own_frame" 1) (S0 : Sf K C 2 "own_entries" 0) (S1 : Sf K C 2 "own_frame" 1) (S2 : Sf K C 2 "own_order" 2) (f0 : Sf K C 0 "own_order" 0)
    (D1 : Dn P w K mg base "require_order" 3 (spR C R_require_order)) (D2 : Mn P w K mg base C "Frame" 0 4 (spI C 0 R_frame_init)) (D3 : Dn P w K mg base "is_entries_of" 3 (spR C R_is_entries_of)) (hb : Binds K fd ["self", "order", "entries"] []) : FnR P w K mg base CX0 6 f (spI C 2 R_turn_init) := by
  refine init_ok F sc_turn_init hb (fun bs r h => ?_) (fun cdv A outer s H E dx bs fs hr h => ?_)
  · rcases h with ⟨n, rows, size, units, y, x, rfl, rfl⟩ | ⟨n, rows, size, units, es, rfl, _, _, _, _, _, _, rfl⟩ <;> exact ⟨rfl, fun z => nomatch z⟩
  · rcases h with ⟨n, rows, size, units, y, x, rfl, rfl⟩ | ⟨n, rows, size, units, es, rfl, h1, h2, h3, h4, h5, h6, rfl⟩
    · refine q_if (k := true) (c_val (e_isiO T.isi (e_var 2) (e_cl 1 G.kept) (G.sc 1 (by omega)).1 (G.sc 1 (by omega)).2 (G.isC 1 1 (by omega) (by omega)))) (fun h => ?_) (fun h => nomatch h)
      refine q_par 3 4 (e_at k1 (e_var 2)) (e_at k0 (e_var 2)) rfl sc_turn_init.nd (q_nil ?_)
      exact q_at S0 (e_var 4) (q_at S1 (e_var 3) (q_at S2 (e_at f0 (e_var 3)) (q_nil ⟨_, rfl⟩)))
    · refine q_if (k := false) (c_val (e_isiC T.isi (e_var 2) (e_cl 1 G.kept) (t := "tuple") rfl (G.isT _ (by simp) 1 (by omega)))) (fun h => nomatch h) (fun h => ?_)
      refine q_drop (e_call (R := R_require_order) D1 (hr.mono (by omega)) (a_cons (e_var 1) a_nil) ⟨n, rfl, h1, h2, rfl⟩) ?_
      refine q_par (x := frB n rows size units) 3 4 (e_make D2 hr (a_cons (e_var 1) a_nil) h3) (e_var 2) rfl sc_turn_init.nd ?_
      refine q_if (k := !true) (c_not (c_val (e_cb (e_call (R := R_is_entries_of) D3 (hr.mono (by omega)) (a_cons (e_var 3) (a_cons (e_var 4) a_nil)) ⟨n, rows, size, units, es, rfl, h5, rfl⟩) (by rw [decide_eq_true h4, h6]; rfl)))) (fun h => nomatch h) (fun h => q_nil (q_nil ?_))
      exact q_at S0 (e_var 4) (q_at S1 (e_var 3) (q_at S2 (e_at f0 (e_var 3)) (q_nil ⟨_, rfl⟩)))
theorem ok_turn_with {f : Addr} {fd : FuncData} (F : Fun K "turn_with" "turn_with" st_turn_with f fd) (f0 : Sf K C 0 "own_order" 0) (D1 : Mn P w K mg base C "Kept" 1 1 (spI C 1 R_kept)) (D2 : Mn P w K mg base C "Turn" 2 6 (spI C 2 R_turn_init)) (hb : Binds K fd ["frame", "entries"] []) : FnR P w K mg base CX0 8 f (spR C R_turn_with) := by
  refine def_ok F sc_turn_with hb (fun bs r h => ?_) (fun cdv A outer s H E bs r hr h => ?_)
  · obtain ⟨n, rows, size, units, y, rfl, _⟩ := h
    rfl
  · obtain ⟨n, rows, size, units, y, rfl, rfl⟩ := h
    exact q_ret (e_make D2 hr (a_cons (e_at f0 (e_var 0)) (a_cons (e_make (fs := [y, frB n rows size units]) D1 (hr.mono (by omega)) (a_cons (e_var 0) (a_cons (e_var 1) a_nil)) ⟨_, _, rfl, rfl⟩) a_nil)) (.inl ⟨n, rows, size, units, y, _, rfl, rfl⟩)) rfl
theorem ok_turn_whole {f : Addr} {fd : FuncData} (F : Fun K "whole" "Turn.whole" st_turn_whole f fd) (T : Bi mg) (D1 : Dn P w K mg base "require_order" 3 (spR C R_require_order)) (D2 : Dn P w K mg base "is_integer" 2 (spR C R_is_integer)) (D3 : Mn P w K mg base C "Frame" 0 4 (spI C 0 R_frame_init))
    (D4 : Me P w K mg base C 0 "whole_row" 1 (spR C R_whole_row)) (D5 : Dn P w K mg base "turn_with" 8 (spR C R_turn_with)) (hb : Binds K fd ["cls", "order", "integer"] []) : FnR P w K mg base CX0 9 f (spR C R_turn_whole) := by
  refine def_ok F sc_turn_whole hb (fun bs r h => ?_) (fun cdv A outer s H E bs r hr h => ?_)
  · obtain ⟨n, rows, size, units, m, rfl, _⟩ := h
    rfl
  · obtain ⟨n, rows, size, units, m, rfl, h1, h2, h3, h4, h5, h6, rfl⟩ := h
    refine q_drop (e_call (R := R_require_order) D1 (hr.mono (by omega)) (a_cons (e_var 1) a_nil) ⟨n, rfl, h1, h2, rfl⟩) ?_
    refine q_if (k := !true) (c_not (c_val (e_call (R := R_is_integer) D2 (hr.mono (by omega)) (a_cons (e_var 2) a_nil) ⟨_, "int", rfl, rfl, by rw [h3]⟩))) (fun h => nomatch h) (fun h => q_nil ?_)
    refine q_set (x := frB n rows size units) 3 (e_make D3 (hr.mono (by omega)) (a_cons (e_var 1) a_nil) h4) sc_turn_whole.nd ?_
    exact q_ret (e_call (R := R_turn_with) D5 hr (a_cons (e_var 3) (a_cons (e_me (R := R_whole_row) D4 (e_var 3) (hr.mono (by omega)) (a_cons (e_var 2) a_nil) ⟨n, rows, size, units, m, rfl, h5, h6, rfl⟩) a_nil)) ⟨n, rows, size, units, _, rfl, rfl⟩) rfl
end
end Q
end

/-! text W14 -/
section
set_option Elab.async false
set_option linter.all false
set_option maxRecDepth 100000
/-! Ideal -/
namespace Q
open PySem PySem.Spec PyProof.Rows L2
def szS (s : Int) (p : List Int × Nat) : Option Int := if p.2 < p.1.length ∧ mulOk s (p.1.getD p.2 0) = true then some (s * p.1.getD p.2 0) else none
def szM (rows : List (List Int)) : Option Int := rows.zipIdx.foldlM szS 1
def intT (i : Int) : Str := toString i
def rowT (row : List Int) : Str := Txt.join " " (row.map intT)
def idT (rows : List (List Int)) (n : Int) : Str := Txt.join "/" (rows.map rowT) ++ (Str.empty ++ " of order " ++ intT n)
structure TxOk (rows : List (List Int)) (n : Int) : Prop where
  lg : ∀ r ∈ rows, ∀ e ∈ r, e.natAbs.log2 < 1920
  ln : n.natAbs.log2 < 1920
  row : ∀ r ∈ rows, ((r.map intT).map (·.length)).sum + (r.map intT).length * (" " : Str).length ≤ 16777216
  len : rows.length ≤ 1000 ∧ ∀ r ∈ rows, r.length ≤ 1000
  all : ((rows.map rowT).map (·.length)).sum + (rows.map rowT).length * ("/" : Str).length ≤ 16777216
  tl : (Str.empty ++ " of order " ++ intT n).length ≤ sizeLine
  tot : (Txt.join "/" (rows.map rowT)).length + (Str.empty ++ " of order " ++ intT n).length ≤ sizeLine
def idB (n : Int) (frows : List (List Int)) (size : Nat) (units : List Int) (rows : List (List Int)) (sz : Int) : B := .ob 4 [frB n frows size units, .int n, rB rows, .int sz, .str (idT rows n)]
def R_ideal_init (bs fs : List B) : Prop := ∃ n frows, ∃ size : Nat, ∃ units rows sz, fs = [frB n frows size units, .int n, rB rows, .int sz, .str (idT rows n)] ∧ szM rows = some sz ∧ TxOk rows n ∧
  ((∃ x, bs = [x, .ob 3 [frB n frows size units, rB rows]]) ∨
   (bs = [.int n, rB rows] ∧ R_require_ideal_order [.int n] .non ∧ R_frame_init [.int n] [.int n, lB frows, .int (size : Int), il units] ∧ R_are_ideal_rows [frB n frows size units, rB rows] (.bl true)))
abbrev st_ideal_init : Stmt := met 58 1
theorem sc_ideal_init : FnScope ["self", "order", "rows", "frame", "told", "place", "row", "texts", "entry"] ["self", "order", "rows"] (defScope st_ideal_init) := ⟨rfl, rfl, rfl, by decide +kernel, rfl, by decide +kernel, by decide +kernel⟩
abbrev sc_ii : Scope := { kind := .function, names := [(".0", .local), ("row", .local)], isGenerator := false, isCoroutine := false }
section
variable {P : Program} {w : World} {K : PySem.W.Frag} {mg : Str → Option Value} {base : Heap} {C : Ct}
theorem ok_ideal_init {f : Addr} {fd : FuncData} (F : Fun K "__init__" "Ideal.__init__" st_ideal_init f fd) (T : Bi mg) (G : CF K mg C) (m0 : Sf K C 3 "own_frame" 0) (m1 : Sf K C 3 "own_rows" 1) (S0 : Sf K C 4 "own_frame" 0) (S1 : Sf K C 4 "own_order" 1) (S2 : Sf K C 4 "own_rows" 2) (S3 : Sf K C 4 "own_size" 3) (S4 : Sf K C 4 "own_text" 4) (f0 : Sf K C 0 "own_order" 0)
    (D1 : Dn P w K mg base "require_ideal_order" 3 (spR C R_require_ideal_order)) (D2 : Mn P w K mg base C "Frame" 0 4 (spI C 0 R_frame_init)) (D3 : Dn P w K mg base "are_ideal_rows" 4 (spR C R_are_ideal_rows)) (hb : Binds K fd ["self", "order", "rows"] []) : FnR P w K mg base CX0 6 f (spI C 4 R_ideal_init) := by
  refine init_ok F sc_ideal_init hb (fun bs r h => ?_) (fun cdv A outer s H E dx bs fs hr h => ?_)
  · obtain ⟨n, frows, size, units, rows, sz, rfl, _, _, h⟩ := h
    rcases h with ⟨x, rfl⟩ | ⟨rfl, _⟩ <;> exact ⟨rfl, fun z => nomatch z⟩
  · obtain ⟨n, frows, size, units, rows, sz, rfl, hsz, tx, h⟩ := h
    -- what follows the two roads
    have tail : ∀ (x y : B), SB C (cxOf CX0 P w K mg base ["self", "order", "rows", "frame", "told", "place", "row", "texts", "entry"] "Ideal.__init__" (defScope st_ideal_init) f cdv A outer s H E).nox ((defBody st_ideal_init).drop 1) [.ow (.ins 4 dx []), .va x, .va y, .va (frB n frows size units), .va (rB rows), .un, .un, .un, .un] (endI 4 dx [frB n frows size units, .int n, rB rows, .int sz, .str (idT rows n)]) := by
      intro x y
      refine q_at S0 (e_var 3) (q_at S1 (e_at f0 (e_var 3)) (q_at S2 (e_var 4) (q_at S3 (x := .int 1) e_int ?_)))
      refine q_forZ (fun (s : Int) => [.ow (.ins 4 dx [some (frB n frows size units), some (.int n), some (rB rows), some (.int s)]), .va x, .va y, .va (frB n frows size units), .va (rB rows), .un, .un, .un, .un]) rows.zipIdx (fun p => .tup [.int (p.2 : Int), it p.1]) szS 1 sz PassesOwn.never rfl
        (v_cv (v_enum (k := false) T.enum (e_var 4)) (enumB_map it rows)) hsz (Weak.refl _) (fun u u' p hp hst => ?_) ?_
      · unfold szS at hst
        split at hst
        · rename_i hg
          cases hst
          refine ⟨_, _, g_pair 5 6 rfl sc_ideal_init.nd, ?_⟩
          refine q_atA (x := .int u) (z := .int (u * p.1.getD p.2 0)) S3 ip_mulX (e_ixT (xs := iB p.1) (e_var 6) (e_var 5) (atI_iB (atI_D hg.1))) (o_I (mulOk_of hg.2)) rfl ?_
          exact q_nil (loop_nx (by repeat (first | exact Weak.nil | apply Weak.eq | apply Weak.un)) rfl)
        · cases hst
      · refine q_lcA (own := [("row", 6)]) 7 rows it (fun r => [.un, .va x, .va y, .va (frB n frows size units), .va (rB rows), .un, .va (it r), .un, .un]) (fun r => .str (rowT r)) rfl sc_ideal_init.nd
          (v_tup (e_var 4)) (blkOk_by (N := ["self", "order", "rows", "frame", "told", "place", "row", "texts", "entry"]) (sc := defScope st_ideal_init) (by decide +kernel)) (blk_of _ _) (fun _ _ _ _ _ z hz => g_name 6 sc_ideal_init.nd)
          (fun s' H' Ca cl fp r hrr => ?_) (by rw [sizeLine_eq]; have := tx.len.1; omega) ?_
        · refine e_join (s := " ") (ts := r.map intT) e_str (e_of (f_cv (f_lcA (own := [("entry", 8)]) r B.int (fun a => [.un, .va x, .va y, .va (frB n frows size units), .va (rB rows), .un, .va (it r), .un, .va (.int a)]) (fun a => .str (intT a)) rfl sc_ideal_init.nd
            (v_tup (e_var 6)) (blkOk_by (N := ["self", "order", "rows", "frame", "told", "place", "row", "texts", "entry"]) (sc := sc_ii) (by decide +kernel)) (blk_of _ _) (fun _ _ _ _ _ z hz => g_name 8 sc_ideal_init.nd)
            (fun _ _ _ _ _ a ha => e_strI T.str (e_var 8) (tx.lg r hrr a ha)) (by rw [sizeLine_eq]; have := tx.len.2 r hrr; omega)) (by rw [List.map_map]; rfl))) (tx.row r hrr)
        · refine q_frz (xs := rows.map fun r => .str (rowT r)) 7 (k := ?_)
          refine q_at S4 (x := .str (idT rows n)) (e_catS (e_join (s := "/") (ts := rows.map rowT) e_str (e_cb (e_var 7) (by rw [List.map_map]; rfl)) tx.all) (e_js2 e_str (e_fmtI (e_at f0 (e_var 3)) tx.ln) (by decide) tx.tl) tx.tot) (q_nil ⟨_, rfl⟩)
    rcases h with ⟨x, rfl⟩ | ⟨rfl, h1, h2, h3⟩
    · refine q_if (k := true) (c_val (e_isiO T.isi (e_var 2) (e_cl 3 G.made) (G.sc 3 (by omega)).1 (G.sc 3 (by omega)).2 (G.isC 3 3 (by omega) (by omega)))) (fun h => ?_) (fun h => nomatch h)
      refine q_par 3 4 (e_at m0 (e_var 2)) (e_at m1 (e_var 2)) rfl sc_ideal_init.nd (q_nil ?_)
      exact tail _ _
    · refine q_if (k := false) (c_val (e_isiC T.isi (e_var 2) (e_cl 3 G.made) (t := "tuple") rfl (G.isT _ (by simp) 3 (by omega)))) (fun h => nomatch h) (fun h => ?_)
      refine q_drop (e_call (R := R_require_ideal_order) D1 (hr.mono (by omega)) (a_cons (e_var 1) a_nil) h1) ?_
      refine q_par (x := frB n frows size units) 3 4 (e_make D2 hr (a_cons (e_var 1) a_nil) h2) (e_var 2) rfl sc_ideal_init.nd ?_
      refine q_if (k := !true) (c_not (c_val (e_call (R := R_are_ideal_rows) D3 (hr.mono (by omega)) (a_cons (e_var 3) (a_cons (e_var 4) a_nil)) h3))) (fun h => nomatch h) (fun h => q_nil (q_nil ?_))
      exact tail _ _
end
end Q
end

/-! text W15 -/
section
set_option Elab.async false
set_option linter.all false
set_option maxRecDepth 100000
/-! made_ideal, whole_in, whole_ideal; what an Ideal answers -/
namespace Q
open PySem PySem.Spec PyProof.Rows L2
def R_made_ideal (bs : List B) (r : B) : Prop := ∃ n frows size units rows sz, bs = [frB n frows size units, rB rows] ∧ szM rows = some sz ∧ TxOk rows n ∧ r = idB n frows size units rows sz
abbrev st_made_ideal : Stmt := top 59
theorem sc_made_ideal : FnScope ["frame", "rows"] ["frame", "rows"] (defScope st_made_ideal) := ⟨rfl, rfl, rfl, by decide +kernel, rfl, by decide +kernel, by decide +kernel⟩
def unitRow (n : Nat) (a : Nat) : List Int := (List.range n).map fun (p : Nat) => if decide (0 + (a : Int) = 0 + (p : Int)) then 1 else 0
def unitRows (n : Nat) : List (List Int) := (List.range n).map (unitRow n)
def R_whole_in (bs : List B) (r : B) : Prop := ∃ n frows size units sz, bs = [frB n frows size units] ∧ size ≤ 1000 ∧ szM (unitRows size) = some sz ∧ TxOk (unitRows size) n ∧ r = idB n frows size units (unitRows size) sz
abbrev st_whole_in : Stmt := top 64
theorem sc_whole_in : FnScope ["frame", "places_of_rows", "at", "to"] ["frame"] (defScope st_whole_in) := ⟨rfl, rfl, rfl, by decide +kernel, rfl, by decide +kernel, by decide +kernel⟩
abbrev sc_wi : Scope := { kind := .function, names := [(".0", .local), ("at", .cell), ("tuple", .globalImplicit), ("places_of_rows", .cell)], isGenerator := false, isCoroutine := false }
def R_whole_ideal (bs : List B) (r : B) : Prop := ∃ n frows, ∃ size : Nat, ∃ units, bs = [.int n] ∧ R_require_ideal_order [.int n] .non ∧ R_frame_init [.int n] [.int n, lB frows, .int (size : Int), il units] ∧ R_whole_in [frB n frows size units] r
abbrev st_whole_ideal : Stmt := top 65
theorem sc_whole_ideal : FnScope ["order"] ["order"] (defScope st_whole_ideal) := ⟨rfl, rfl, rfl, by decide +kernel, rfl, by decide +kernel, by decide +kernel⟩
def R_fld (i : Nat) (bs : List B) (r : B) : Prop := ∃ n frows size units rows sz, bs = [idB n frows size units rows sz] ∧ ([frB n frows size units, .int n, rB rows, .int sz, .str (idT rows n)] : List B)[i]? = some r
def R_id_contains (bs : List B) (r : B) : Prop := ∃ n frows size units rows sz x, bs = [idB n frows size units rows sz, x] ∧
  ((∃ es fr n', x = .ob 2 [it es, fr, .int n'] ∧ ((n' ≠ n ∧ r = .bl false) ∨ (n' = n ∧ R_is_in_rows [rB rows, it es] r))) ∨ (known x ∧ r = .bl false) ∨ ((∃ gs, x = .ob 4 gs) ∧ r = .bl false))
def R_id_eq (bs : List B) (r : B) : Prop := ∃ n frows size units rows sz x, bs = [idB n frows size units rows sz, x] ∧ ((known x ∧ r = .bl false) ∨ (∃ fr' rows' sz' tx', x = .ob 4 [fr', .int n, rB rows', .int sz', tx'] ∧ Cmp (rB rows) ∧ Cmp (rB rows') ∧ r = .bl (PyData.eqv (py (rB rows)) (py (rB rows')))))
def R_id_len (bs : List B) (r : B) : Prop := ∃ n frows size units rows sz, bs = [idB n frows size units rows sz] ∧ r = .int (rows.length : Int)
def R_id_str (bs : List B) (r : B) : Prop := ∃ n frows size units rows sz, bs = [idB n frows size units rows sz] ∧ (idT rows n).length ≤ sizeLine ∧ r = .str (idT rows n)
abbrev st_id_order : Stmt := met 58 2
abbrev st_id_rows : Stmt := met 58 3
abbrev st_id_size : Stmt := met 58 4
abbrev st_id_contains : Stmt := met 58 12
abbrev st_id_eq : Stmt := met 58 13
abbrev st_id_len : Stmt := met 58 14
abbrev st_id_iter : Stmt := met 58 15
abbrev st_id_str : Stmt := met 58 16
theorem sc_id_order : FnScope ["self"] ["self"] (defScope st_id_order) := ⟨rfl, rfl, rfl, by decide +kernel, rfl, by decide +kernel, by decide +kernel⟩
theorem sc_id_rows : FnScope ["self"] ["self"] (defScope st_id_rows) := ⟨rfl, rfl, rfl, by decide +kernel, rfl, by decide +kernel, by decide +kernel⟩
theorem sc_id_size : FnScope ["self"] ["self"] (defScope st_id_size) := ⟨rfl, rfl, rfl, by decide +kernel, rfl, by decide +kernel, by decide +kernel⟩
theorem sc_id_contains : FnScope ["self", "value"] ["self", "value"] (defScope st_id_contains) := ⟨rfl, rfl, rfl, by decide +kernel, rfl, by decide +kernel, by decide +kernel⟩
theorem sc_id_eq : FnScope ["self", "other"] ["self", "other"] (defScope st_id_eq) := ⟨rfl, rfl, rfl, by decide +kernel, rfl, by decide +kernel, by decide +kernel⟩
theorem sc_id_len : FnScope ["self"] ["self"] (defScope st_id_len) := ⟨rfl, rfl, rfl, by decide +kernel, rfl, by decide +kernel, by decide +kernel⟩
theorem sc_id_iter : FnScope ["self"] ["self"] (defScope st_id_iter) := ⟨rfl, rfl, rfl, by decide +kernel, rfl, by decide +kernel, by decide +kernel⟩
theorem sc_id_str : FnScope ["self"] ["self"] (defScope st_id_str) := ⟨rfl, rfl, rfl, by decide +kernel, rfl, by decide +kernel, by decide +kernel⟩
section
variable {P : Program} {w : World} {K : PySem.W.Frag} {mg : Str → Option Value} {base : Heap} {C : Ct}
theorem ok_made_ideal {f : Addr} {fd : FuncData} (F : Fun K "made_ideal" "made_ideal" st_made_ideal f fd) (f0 : Sf K C 0 "own_order" 0) (D1 : Mn P w K mg base C "Made" 3 1 (spI C 3 R_made)) (D2 : Mn P w K mg base C "Ideal" 4 6 (spI C 4 R_ideal_init)) (hb : Binds K fd ["frame", "rows"] []) : FnR P w K mg base CX0 8 f (spR C R_made_ideal) := by
  refine def_ok F sc_made_ideal hb (fun bs r h => ?_) (fun cdv A outer s H E bs r hr h => ?_)
  · obtain ⟨n, frows, size, units, rows, sz, rfl, _⟩ := h
    rfl
  · obtain ⟨n, frows, size, units, rows, sz, rfl, h1, h2, rfl⟩ := h
    exact q_ret (e_make D2 hr (a_cons (e_at f0 (e_var 0)) (a_cons (e_make (fs := [frB n frows size units, rB rows]) D1 (hr.mono (by omega)) (a_cons (e_var 0) (a_cons (e_var 1) a_nil)) ⟨_, _, rfl, rfl⟩) a_nil)) ⟨n, frows, size, units, rows, sz, rfl, h1, h2, .inl ⟨_, rfl⟩⟩) rfl
theorem ok_whole_in {f : Addr} {fd : FuncData} (F : Fun K "whole_in" "whole_in" st_whole_in f fd) (T : Bi mg) (f2 : Sf K C 0 "own_size" 2) (D : Dn P w K mg base "made_ideal" 8 (spR C R_made_ideal)) (hb : Binds K fd ["frame"] []) : FnR P w K mg base CX0 9 f (spR C R_whole_in) := by
  refine def_ok F sc_whole_in hb (fun bs r h => ?_) (fun cdv A outer s H E bs r hr h => ?_)
  · obtain ⟨n, frows, size, units, sz, rfl, _⟩ := h
    rfl
  · obtain ⟨n, frows, size, units, sz, rfl, hl, h1, h2, rfl⟩ := h
    refine q_set (x := .rng 0 (size : Int)) 1 (e_rng1 T.range (e_at f2 (e_var 0))) sc_whole_in.nd ?_
    have ev : rngB 0 ((size : Int) - 0).toNat = (List.range size).map fun (i : Nat) => B.int (0 + (i : Int)) := by
      rw [show ((size : Int) - 0).toNat = size from by omega]
      rfl
    refine q_ret (e_call (R := R_made_ideal) D hr (a_cons (e_var 0) (a_cons (e_tuple true T.tuple (e_of (f_cv (ys := (unitRows size).map it) (f_lcA (own := [("at", 2)]) (List.range size) (fun (i : Nat) => B.int (0 + (i : Int))) (fun (i : Nat) => [.va (frB n frows size units), .va (.rng 0 (size : Int)), .va (.int (0 + (i : Int))), .un]) (fun a => it (unitRow size a)) rfl sc_whole_in.nd
      (v_cv (v_rngV (e_var 1) (by omega) (by omega)) ev) (blkOk_by (N := ["frame", "places_of_rows", "at", "to"]) (sc := defScope st_whole_in) (by decide +kernel)) (blk_of _ _) (fun _ _ _ _ _ z hz => g_name 2 sc_whole_in.nd)
      (fun s' H' Ca cl fp z hz => e_tuple true T.tuple (e_of (f_cv (f_lcA (own := [("to", 3)]) (List.range size) (fun (i : Nat) => B.int (0 + (i : Int))) (fun (i : Nat) => [.va (frB n frows size units), .va (.rng 0 (size : Int)), .va (.int (0 + (z : Int))), .va (.int (0 + (i : Int)))]) (fun (p : Nat) => .int (if decide (0 + (z : Int) = 0 + (p : Int)) then 1 else 0)) rfl sc_whole_in.nd
        (v_cv (v_rngV (e_var 1) (by omega) (by omega)) ev) (blkOk_by (N := ["frame", "places_of_rows", "at", "to"]) (sc := sc_wi) (by decide +kernel)) (blk_of _ _) (fun _ _ _ _ _ z hz => g_name 3 sc_whole_in.nd)
        (fun _ _ _ _ _ y hy => e_intB T.int (e_eq (e_var 2) (e_var 3))) (by rw [List.length_range, sizeLine_eq]; omega)) (by rw [unitRow, iB, List.map_map]; rfl)))) (by rw [List.length_range, sizeLine_eq]; omega)) (by rw [unitRows, List.map_map]; rfl)))) a_nil)) ⟨n, frows, size, units, unitRows size, sz, rfl, h1, h2, rfl⟩) rfl
theorem ok_whole_ideal {f : Addr} {fd : FuncData} (F : Fun K "whole_ideal" "whole_ideal" st_whole_ideal f fd) (D1 : Dn P w K mg base "require_ideal_order" 3 (spR C R_require_ideal_order)) (D2 : Mn P w K mg base C "Frame" 0 4 (spI C 0 R_frame_init)) (D3 : Dn P w K mg base "whole_in" 9 (spR C R_whole_in)) (hb : Binds K fd ["order"] []) : FnR P w K mg base CX0 10 f (spR C R_whole_ideal) := by
  refine def_ok F sc_whole_ideal hb (fun bs r h => ?_) (fun cdv A outer s H E bs r hr h => ?_)
  · obtain ⟨n, frows, size, units, rfl, _⟩ := h
    rfl
  · obtain ⟨n, frows, size, units, rfl, h1, h2, h3⟩ := h
    refine q_drop (e_call (R := R_require_ideal_order) D1 (hr.mono (by omega)) (a_cons (e_var 0) a_nil) h1) ?_
    exact q_ret (e_call (R := R_whole_in) D3 hr (a_cons (e_make (fs := [.int n, lB frows, .int (size : Int), il units]) D2 (hr.mono (by omega)) (a_cons (e_var 0) a_nil) h2) a_nil) h3) rfl
theorem ok_id_order {f : Addr} {fd : FuncData} (F : Fun K "order" "Ideal.order" st_id_order f fd) (S : Sf K C 4 "own_order" 1) (hb : Binds K fd ["self"] []) : FnR P w K mg base CX0 1 f (spR C (R_fld 1)) := by
  refine def_ok F sc_id_order hb (fun bs r h => ?_) (fun cdv A outer s H E bs r hr h => ?_)
  · obtain ⟨n, frows, size, units, rows, sz, rfl, _⟩ := h
    rfl
  · obtain ⟨n, frows, size, units, rows, sz, rfl, h⟩ := h
    cases h
    exact q_ret (e_at S (e_var 0)) rfl
theorem ok_id_rows {f : Addr} {fd : FuncData} (F : Fun K "rows" "Ideal.rows" st_id_rows f fd) (S : Sf K C 4 "own_rows" 2) (hb : Binds K fd ["self"] []) : FnR P w K mg base CX0 1 f (spR C (R_fld 2)) := by
  refine def_ok F sc_id_rows hb (fun bs r h => ?_) (fun cdv A outer s H E bs r hr h => ?_)
  · obtain ⟨n, frows, size, units, rows, sz, rfl, _⟩ := h
    rfl
  · obtain ⟨n, frows, size, units, rows, sz, rfl, h⟩ := h
    cases h
    exact q_ret (e_at S (e_var 0)) rfl
theorem ok_id_size {f : Addr} {fd : FuncData} (F : Fun K "size" "Ideal.size" st_id_size f fd) (S : Sf K C 4 "own_size" 3) (hb : Binds K fd ["self"] []) : FnR P w K mg base CX0 1 f (spR C (R_fld 3)) := by
  refine def_ok F sc_id_size hb (fun bs r h => ?_) (fun cdv A outer s H E bs r hr h => ?_)
  · obtain ⟨n, frows, size, units, rows, sz, rfl, _⟩ := h
    rfl
  · obtain ⟨n, frows, size, units, rows, sz, rfl, h⟩ := h
    cases h
    exact q_ret (e_at S (e_var 0)) rfl
theorem ok_id_len {f : Addr} {fd : FuncData} (F : Fun K "__len__" "Ideal.__len__" st_id_len f fd) (T : Bi mg) (S : Sf K C 4 "own_rows" 2) (hb : Binds K fd ["self"] []) : FnR P w K mg base CX0 1 f (spR C R_id_len) := by
  refine def_ok F sc_id_len hb (fun bs r h => ?_) (fun cdv A outer s H E bs r hr h => ?_)
  · obtain ⟨n, frows, size, units, rows, sz, rfl, _⟩ := h
    rfl
  · obtain ⟨n, frows, size, units, rows, sz, rfl, rfl⟩ := h
    exact q_ret (e_cv (e_len false T.len (e_at (x := rB rows) S (e_var 0))) (by rw [List.length_map])) rfl
theorem ok_id_str {f : Addr} {fd : FuncData} (F : Fun K "__str__" "Ideal.__str__" st_id_str f fd) (S : Sf K C 4 "own_text" 4) (hb : Binds K fd ["self"] []) : FnR P w K mg base CX0 1 f (spR C R_id_str) := by
  refine def_ok F sc_id_str hb (fun bs r h => ?_) (fun cdv A outer s H E bs r hr h => ?_)
  · obtain ⟨n, frows, size, units, rows, sz, rfl, _⟩ := h
    rfl
  · obtain ⟨n, frows, size, units, rows, sz, rfl, hl, rfl⟩ := h
    exact q_ret (e_js1 (e_fmtS (e_at S (e_var 0)) hl)) rfl
theorem ok_id_contains {f : Addr} {fd : FuncData} (F : Fun K "__contains__" "Ideal.__contains__" st_id_contains f fd) (T : Bi mg) (G : CF K mg C) (S1 : Sf K C 4 "own_order" 1) (S2 : Sf K C 4 "own_rows" 2) (t0 : Sf K C 2 "own_entries" 0) (t2 : Sf K C 2 "own_order" 2) (D : Dn P w K mg base "is_in_rows" 2 (spR C R_is_in_rows)) (hb : Binds K fd ["self", "value"] []) : FnR P w K mg base CX0 3 f (spR C R_id_contains) := by
  refine def_ok F sc_id_contains hb (fun bs r h => ?_) (fun cdv A outer s H E bs r hr h => ?_)
  · obtain ⟨n, frows, size, units, rows, sz, x, rfl, _⟩ := h
    rfl
  · obtain ⟨n, frows, size, units, rows, sz, x, rfl, h⟩ := h
    rcases h with ⟨es, fr, n', rfl, h⟩ | ⟨⟨t, ht⟩, rfl⟩ | ⟨⟨gs, rfl⟩, rfl⟩
    · refine q_if (k := !true || !decide (n' = n)) (c_w (w_or (c_not (c_val (e_isiO T.isi (e_var 1) (e_cl 2 G.turn) (G.sc 2 (by omega)).1 (G.sc 2 (by omega)).2 (G.isC 2 2 (by omega) (by omega))))) (fun _ => w_or1 (c_ne (e_at t2 (e_var 1)) (e_at S1 (e_var 0)))) (fun z => nomatch z))) (fun hk => ?_) (fun hk => ?_)
      · have hne : n' ≠ n := by simpa using hk
        rcases h with ⟨_, rfl⟩ | ⟨he, _⟩
        · exact q_ret e_bl rfl
        · exact absurd he hne
      · have he : n' = n := by simpa using hk
        rcases h with ⟨hne, _⟩ | ⟨_, h⟩
        · exact absurd he hne
        · exact q_nil (q_ret (e_call (R := R_is_in_rows) D hr (a_cons (e_at S2 (e_var 0)) (a_cons (e_at t0 (e_var 1)) a_nil)) h) rfl)
    · refine q_if (k := !false || true) (c_w (w_or (l := true) (c_not (c_val (e_isiC T.isi (e_var 1) (e_cl 2 G.turn) ht (G.isT t (tyB_mem ht) 2 (by omega))))) (fun z => nomatch z) (fun _ => rfl))) (fun _ => q_ret e_bl rfl) (fun z => nomatch z)
    · refine q_if (k := !false || true) (c_w (w_or (l := true) (c_not (c_val (e_isiO T.isi (e_var 1) (e_cl 2 G.turn) (G.sc 4 (by omega)).1 (G.sc 4 (by omega)).2 (G.isC 4 2 (by omega) (by omega))))) (fun z => nomatch z) (fun _ => rfl))) (fun _ => q_ret e_bl rfl) (fun z => nomatch z)
theorem ok_id_eq {f : Addr} {fd : FuncData} (F : Fun K "__eq__" "Ideal.__eq__" st_id_eq f fd) (T : Bi mg) (G : CF K mg C) (S1 : Sf K C 4 "own_order" 1) (S2 : Sf K C 4 "own_rows" 2) (hb : Binds K fd ["self", "other"] []) : FnR P w K mg base CX0 1 f (spR C R_id_eq) := by
  refine def_ok F sc_id_eq hb (fun bs r h => ?_) (fun cdv A outer s H E bs r hr h => ?_)
  · obtain ⟨n, frows, size, units, rows, sz, x, rfl, _⟩ := h
    rfl
  · obtain ⟨n, frows, size, units, rows, sz, x, rfl, h⟩ := h
    rcases h with ⟨⟨t, ht⟩, rfl⟩ | ⟨fr', rows', sz', tx', rfl, c1, c2, rfl⟩
    · refine q_if (k := !false) (c_not (c_val (e_isiC T.isi (e_var 1) (e_cl 4 G.ideal) ht (G.isT t (tyB_mem ht) 4 (by omega))))) (fun _ => q_ret e_bl rfl) (fun z => nomatch z)
    · refine q_if (k := !true) (c_not (c_val (e_isiO T.isi (e_var 1) (e_cl 4 G.ideal) (G.sc 4 (by omega)).1 (G.sc 4 (by omega)).2 (G.isC 4 4 (by omega) (by omega))))) (fun z => nomatch z) (fun _ => q_nil ?_)
      exact q_ret (e_and (k := decide (n = n)) (e_eq (e_at S1 (e_var 0)) (e_at S1 (e_var 1))) (fun _ => e_one (e_eqD (by have := hr.un; show A.units + 3 + 64 < cLine; have h3 : A.units + 3 + 16 * 0 + 200 < cLine := this; omega) (e_at S2 (e_var 0)) (e_at S2 (e_var 1)) c1 c2)) (fun _ => rfl)) (by rw [decide_eq_true rfl, Bool.true_and]; rfl)
end
end Q
end

/-! text W16 -/
section
set_option Elab.async false
set_option linter.all false
set_option maxRecDepth 100000
/-! the law's own: divisors, poly_over, cyclotomic -/
namespace Q
open PySem PySem.Spec PyProof.Rows L2
def lawDiv (n : Nat) : List Int := ((List.range n).filter fun (i : Nat) => decide ((n : Int).fmod (1 + (i : Int)) = 0)).map fun (i : Nat) => 1 + (i : Int)
def R_law_divisors (bs : List B) (r : B) : Prop := ∃ n : Nat, bs = [.int n] ∧ n ≤ 1000 ∧ r = il (lawDiv n)
abbrev st_law_divisors : Stmt := top 70
theorem sc_law_divisors : FnScope ["_law_number", "_law_one"] ["_law_number"] (defScope st_law_divisors) := ⟨rfl, rfl, rfl, by decide +kernel, rfl, by decide +kernel, by decide +kernel⟩
abbrev st_law_poly_over : Stmt := top 71
theorem sc_law_poly_over : FnScope ["_law_one", "_law_other", "_law_left", "_law_found", "_law_at", "_law_place", "_law_entry"] ["_law_one", "_law_other"] (defScope st_law_poly_over) := ⟨rfl, rfl, rfl, by decide +kernel, rfl, by decide +kernel, by decide +kernel⟩
def lcyI (known : List (Int × List Int)) (found : List Int) (less : Int) : Option (List Int) := (getG known less).bind fun e => eqM found e
def lcyO (known : List (Int × List Int)) (number : Int) : Option (List (Int × List Int)) :=
  if 1 ≤ number ∧ number ≤ 100 ∧ known.length ≤ 100 then ((cut (lawDiv number.toNat) none (some (-1))).foldlM (lcyI known) (-1 :: (List.replicate (number.toNat - 1) 0 ++ [1]))).map fun f => putG known number f else none
def lcyM (n : Nat) : Option (List Int) := ((lawDiv n).foldlM lcyO []).bind fun known => getG known n
def R_law_cyclotomic (bs : List B) (r : B) : Prop := ∃ n : Nat, ∃ q, bs = [.int n] ∧ n ≤ 1000 ∧ lcyM n = some q ∧ r = il q
abbrev st_law_cyclotomic : Stmt := top 72
theorem sc_law_cyclotomic : FnScope ["_law_order", "_law_known", "_law_number", "_law_found", "_law_less"] ["_law_order"] (defScope st_law_cyclotomic) := ⟨rfl, rfl, rfl, by decide +kernel, rfl, by decide +kernel, by decide +kernel⟩
section
variable {P : Program} {w : World} {K : PySem.W.Frag} {mg : Str → Option Value} {base : Heap} {C : Ct}
theorem ok_law_divisors {f : Addr} {fd : FuncData} (F : Fun K "_law_divisors" "_law_divisors" st_law_divisors f fd) (T : Bi mg) (hb : Binds K fd ["_law_number"] []) : FnR P w K mg base CX0 1 f (spR C R_law_divisors) := by
  refine def_ok F sc_law_divisors hb (fun bs r h => ?_) (fun cdv A outer s H E bs r hr h => ?_)
  · obtain ⟨n, rfl, _⟩ := h
    rfl
  · obtain ⟨n, rfl, hn, rfl⟩ := h
    refine q_ret (e_of (f_cv (f_lc (own := [("_law_one", 1)]) (List.range n) (fun (i : Nat) => B.int (1 + (i : Int))) (fun (i : Nat) => [.va (.int n), .va (.int (1 + (i : Int)))]) (fun (i : Nat) => decide ((n : Int).fmod (1 + (i : Int)) = 0)) (fun (i : Nat) => B.int (1 + (i : Int))) rfl sc_law_divisors.nd
      (v_cv (v_rng2 (lo := 1) (hi := (n : Int) + 1) T.range (a_cons e_int (a_cons (e_add (e_var 0) e_int) a_nil)) (by omega) (by omega)) (by rw [show ((n : Int) + 1 - 1).toNat = n from by omega]; rfl)) (blkOk_by (N := ["_law_number", "_law_one"]) (sc := defScope st_law_divisors) (by decide +kernel)) (blk_of _ _) (fun _ _ _ _ _ z hz => g_name 1 sc_law_divisors.nd)
      (fun _ _ _ _ _ z hz => t_one (c_eq (e_mod (e_var 0) (e_var 1) (by omega)) e_int)) (fun _ _ _ _ _ z hz _ => e_var 1) (by rw [List.length_range, sizeLine_eq]; omega)) (ys := iB (lawDiv n)) (by rw [iB, lawDiv, List.map_map]; rfl))) rfl
theorem ok_law_poly_over {f : Addr} {fd : FuncData} (F : Fun K "_law_poly_over" "_law_poly_over" st_law_poly_over f fd) (T : Bi mg) (hb : Binds K fd ["_law_one", "_law_other"] []) : FnR P w K mg base CX0 1 f (spR C R_exact_quotient) := by
  refine def_ok F sc_law_poly_over hb (fun bs r h => ?_) (fun cdv A outer s H E bs r hr h => ?_)
  · obtain ⟨one, other, q, rfl, _⟩ := h
    rfl
  · obtain ⟨one, other, q, rfl, hq, rfl⟩ := h
    unfold eqM at hq
    split at hq
    · rename_i hl
      obtain ⟨m, hm⟩ : ∃ m : Nat, m = one.length - other.length + 1 := ⟨_, rfl⟩
      rw [← hm] at hq
      cases hz : (rngC ((m : Int) - 1) (-1) m).foldlM (eqO other) (one, List.replicate m 0) with
      | none => rw [hz] at hq; cases hq
      | some fin =>
        rw [hz] at hq
        cases hq
        have l1 : (iB one).length = one.length := List.length_map ..
        have l2 : (iB other).length = other.length := List.length_map ..
        have lf : (iB (List.replicate m (0 : Int))).length = m := by rw [List.length_map, List.length_replicate]
        refine q_parOO (o1 := .lst (iB one)) (o2 := .lst (iB (List.replicate m 0))) 2 3 (f_list true T.list (e_var 0)) (f_cv (f_rep (xs := [.int 0]) (k := (m : Int)) (e_lst (a_cons e_int a_nil) (by decide)) (e_cv (e_add (e_sub (e_len true T.len (e_var 0)) (e_len true T.len (e_var 1))) e_int) (by omega)) (by omega) (by omega) (by
          show 1 * _ ≤ _
          rw [sizeLine_eq, Int.toNat_natCast]
          omega)) (by rw [Int.toNat_natCast, flat_rep])) rfl sc_law_poly_over.nd trivial ?_
        refine q_forM (fun (s : List Int × List Int) => [.va (il one), .va (il other), .ow (.lst (iB s.1)), .ow (.lst (iB s.2)), .un, .un, .un]) (eqO other) (one, List.replicate m 0) fin PassesOwn.never rfl
          (v_rng3 (lo := (m : Int) - 1) (hi := -1) (st := -1) T.range (a_cons (e_cv (e_sub (e_lenO 3 T.len) e_int) (by rw [lf])) (a_cons (e_neg e_int) (a_cons (e_neg e_int) a_nil))) (rng_down (by omega))) hz (Weak.refl _) (fun u u' x hx hst => ?_) ?_
        · unfold eqO at hst
          split at hst
          · rename_i at_
            cases h1 : atI u.1 (at_ + other.length - 1) with
            | none => rw [h1] at hst; cases hst
            | some v =>
              rw [h1] at hst
              cases h2 : ixN u.2.length at_ with
              | none => rw [h2] at hst; cases hst
              | some j =>
                rw [h2] at hst
                have hst' : (if atI (u.2.set j v) at_ = some v then ((enumB (iB other)).foldlM (eqI at_ v) u.1).map fun l => (l, u.2.set j v) else none) = some u' := hst
                split at hst'
                · rename_i h3
                  cases h4 : (enumB (iB other)).foldlM (eqI at_ v) u.1 with
                  | none => rw [h4] at hst'; cases hst'
                  | some l =>
                    rw [h4] at hst'
                    cases hst'
                    refine ⟨_, _, g_name 4 sc_law_poly_over.nd, ?_⟩
                    refine q_put (xs := iB u.2) (x := .int v) (j := j) (k := at_) 3 (e_ixO 2 rfl (e_sub (e_add (e_var 4) (e_len true T.len (e_var 1))) e_int) (atI_iB (by rw [l2]; exact h1))) (e_var 4) (by rw [List.length_map]; exact h2) ?_
                    rw [show (iB u.2).set j (.int v) = iB (u.2.set j v) from (List.map_set ..).symm]
                    refine q_forM (fun (s : List Int) => [.va (il one), .va (il other), .ow (.lst (iB s)), .ow (.lst (iB (u.2.set j v))), .va (.int at_), .un, .un]) (eqI at_ v) u.1 l PassesOwn.never rfl (v_enum (k := true) T.enum (e_var 1)) h4 (Weak.refl _) (fun s s' y hy hst => ?_) ?_
                    · unfold eqI at hst
                      split at hst
                      · rename_i place entry
                        split at hst
                        · rename_i h5
                          cases h6 : ixN s.length (at_ + place) with
                          | none => rw [h6] at hst; cases hst
                          | some k =>
                            rw [h6] at hst
                            cases h7 : atI s (at_ + place) with
                            | none => rw [h7] at hst; cases hst
                            | some old =>
                              rw [h7] at hst
                              obtain ⟨hg, rfl⟩ := grd_some (show grd _ _ = some s' from hst)
                              rw [Bool.and_eq_true] at hg
                              refine ⟨_, _, g_pair 5 6 rfl sc_law_poly_over.nd, ?_⟩
                              refine q_put (xs := iB s) (x := .int (old - v * entry)) (j := k) (k := at_ + place) 2 (e_sub (e_ixO 2 rfl (e_add (e_var 4) (e_var 5)) (atI_iB h7)) (e_mul (e_ixO 3 rfl (e_var 4) (atI_iB h3)) (e_var 6) (cmul_small (small_of hg.1) (small_of hg.2)))) (e_add (e_var 4) (e_var 5)) (by rw [List.length_map]; exact h6) ?_
                              rw [show (iB s).set k (.int (old - v * entry)) = iB (s.set k (old - v * entry)) from (List.map_set ..).symm]
                              exact q_nil (loop_nx (by repeat (first | exact Weak.nil | apply Weak.eq | apply Weak.un)) rfl)
                        · cases hst
                      · cases hst
                    · exact q_nil (loop_nx (by repeat (first | exact Weak.nil | apply Weak.eq | apply Weak.un)) rfl)
                · cases hst'
          · cases hst
        · exact q_frz (xs := iB fin.2) 3 (k := q_ret (e_var 3) rfl)
    · cases hq
theorem ok_law_cyclotomic {f : Addr} {fd : FuncData} (F : Fun K "_law_cyclotomic" "_law_cyclotomic" st_law_cyclotomic f fd) (T : Bi mg) (D1 : Dn P w K mg base "_law_divisors" 1 (spR C R_law_divisors)) (D2 : Dn P w K mg base "_law_poly_over" 1 (spR C R_exact_quotient)) (hb : Binds K fd ["_law_order"] []) : FnR P w K mg base CX0 2 f (spR C R_law_cyclotomic) := by
  refine def_ok F sc_law_cyclotomic hb (fun bs r h => ?_) (fun cdv A outer s H E bs r hr h => ?_)
  · obtain ⟨n, q, rfl, _⟩ := h
    rfl
  · obtain ⟨n, q, rfl, hn, hm, rfl⟩ := h
    unfold lcyM at hm
    cases hk : (lawDiv n).foldlM lcyO [] with
    | none => rw [hk] at hm; cases hm
    | some known =>
      rw [hk] at hm
      have hq : getG known (n : Int) = some q := hm
      refine q_own (o := .dic (kG il [])) 1 f_dic sc_law_cyclotomic.nd ?_
      refine q_forZ (fun (s : List (Int × List Int)) => [.va (.int n), .ow (.dic (kG il s)), .un, .un, .un]) (lawDiv n) B.int lcyO [] known PassesOwn.never rfl (v_list (e_call (R := R_law_divisors) D1 hr (a_cons (e_var 0) a_nil) ⟨n, rfl, hn, rfl⟩)) hk (Weak.refl _) (fun u u' number hx hst => ?_) ?_
      · unfold lcyO at hst
        split at hst
        · rename_i hg
          obtain ⟨g1, g2, g3⟩ := hg
          cases hz : (cut (lawDiv number.toNat) none (some (-1))).foldlM (lcyI u) (-1 :: (List.replicate (number.toNat - 1) 0 ++ [1])) with
          | none => rw [hz] at hst; cases hst
          | some fq =>
            rw [hz] at hst
            cases hst
            refine ⟨_, _, g_name 2 sc_law_cyclotomic.nd, ?_⟩
            have er : (number - 1).toNat = number.toNat - 1 := by omega
            refine q_set (x := il (-1 :: (List.replicate (number.toNat - 1) 0 ++ [1]))) 3 (e_cb (e_of (f_cat (xs := .int (-1) :: iB (List.replicate (number.toNat - 1) 0)) (ys := [.int 1]) (e_of (f_cv (f_cat (xs := [.int (-1)]) (ys := iB (List.replicate (number.toNat - 1) 0)) (e_lst (a_cons (e_neg e_int) a_nil) (by decide)) (e_of (f_cv (f_rep (xs := [.int 0]) (k := number - 1) (e_lst (a_cons e_int a_nil) (by decide)) (e_sub (e_var 2) e_int) (by omega) (by omega) (by
              show 1 * _ ≤ _
              rw [sizeLine_eq, er]
              omega)) (by rw [er, flat_rep]))) (by
              rw [List.length_map, List.length_replicate, sizeLine_eq]
              show 1 + _ ≤ _
              omega)) rfl)) (e_lst (a_cons e_int a_nil) (by decide)) (by
              rw [List.length_cons, List.length_map, List.length_replicate, sizeLine_eq]
              show _ + 1 ≤ _
              omega))) (by
              show B.lst (_ :: (_ ++ _)) = B.lst (_ :: List.map _ (_ ++ _))
              rw [List.map_append]
              rfl)) sc_law_cyclotomic.nd ?_
            have ed : (number.toNat : Int) = number := by omega
            refine q_forZ (fun (s : List Int) => [.va (.int n), .ow (.dic (kG il u)), .va (.int number), .va (il s), .un]) (cut (lawDiv number.toNat) none (some (-1))) B.int (lcyI u) _ fq PassesOwn.never rfl (v_cv (v_list (e_of (f_slL (xs := iB (lawDiv number.toNat)) (i := none) (j := some (-1)) (e_call (R := R_law_divisors) D1 hr (a_cons (e_var 2) a_nil) ⟨number.toNat, by rw [ed], by omega, rfl⟩) i_none (i_some (e_neg e_int))))) (cut_map B.int _ _ _).symm) hz (Weak.refl _) (fun s s' less hy hst => ?_) ?_
            · unfold lcyI at hst
              cases hg : getG u less with
              | none => rw [hg] at hst; cases hst
              | some e =>
                rw [hg] at hst
                refine ⟨_, _, g_name 4 sc_law_cyclotomic.nd, ?_⟩
                refine q_set (x := il s') 3 (e_call (R := R_exact_quotient) D2 hr (a_cons (e_var 3) (a_cons (e_dget (x := il e) (kbs := kG il u) 1 hr (e_var 4) (by rw [dget_kG, hg]; rfl)) a_nil)) ⟨_, _, s', rfl, hst, rfl⟩) sc_law_cyclotomic.nd ?_
                exact q_nil (loop_nx (by repeat (first | exact Weak.nil | apply Weak.eq | apply Weak.un)) rfl)
            · refine q_dput (x := il fq) (kbs := kG il u) 1 hr (e_var 3) (e_var 2) (by rw [kG_len, sizeLine_eq]; omega) ?_
              rw [dput_kG]
              exact q_nil (loop_nx (by repeat (first | exact Weak.nil | apply Weak.eq | apply Weak.un)) rfl)
        · cases hst
      · exact q_ret (e_dget (kbs := kG il known) 1 hr (e_var 0) (by rw [dget_kG, hq]; rfl)) rfl
end
end Q
end

/-! text W17 -/
section
set_option Elab.async false
set_option linter.all false
set_option maxRecDepth 100000
/-! the law's own: turn_cut, turn_times, turn_power, turn_whole, row_less, is_in_rows, ideal_size -/
namespace Q
open PySem PySem.Spec PyProof.Rows L2
/-! ### turn_cut -/
def ctI (poly : List Int) (size at_ : Nat) (head : Int) (left : List Int) (place : Nat) : Option (List Int) :=
  grd (decide (at_ - size + place < left.length) && decide (place < poly.length) && mulOk head (poly.getD place 0)) (left.set (at_ - size + place) (left.getD (at_ - size + place) 0 - head * poly.getD place 0))
def ctO (poly : List Int) (size len : Nat) (left : List Int) (i : Nat) : Option (List Int) :=
  if len - 1 - i < left.length then (if left.getD (len - 1 - i) 0 = 0 then some left else (List.range (size + 1)).foldlM (ctI poly size (len - 1 - i) (left.getD (len - 1 - i) 0)) left) else none
def ctM (poly : List Int) (n : Nat) (row : List Int) : Option (List Int) :=
  if 2 ≤ poly.length ∧ poly.length - 1 ≤ row.length + n ∧ row.length + n ≤ 1000 then
    ((List.range (row.length + n - (poly.length - 1))).foldlM (ctO poly (poly.length - 1) (row.length + n)) (row ++ List.replicate n 0)).bind fun l => grd (decide (poly.length - 1 ≤ l.length)) (l.take (poly.length - 1)) else none
def R_law_turn_cut (bs : List B) (r : B) : Prop := ∃ n : Nat, ∃ row poly q, bs = [.int n, il row] ∧ R_law_cyclotomic [.int n] (il poly) ∧ ctM poly n row = some q ∧ r = it q
abbrev st_law_turn_cut : Stmt := top 73
theorem sc_law_turn_cut : FnScope ["_law_order", "_law_row", "_law_poly", "_law_left", "_law_size", "_law_at", "_law_head", "_law_place", "_law_spot"] ["_law_order", "_law_row"] (defScope st_law_turn_cut) := ⟨rfl, rfl, rfl, by decide +kernel, rfl, by decide +kernel, by decide +kernel⟩
/-! ### turn_times, turn_power, turn_whole -/
def ltO (other : List Int) (found : List Int) (p : Int × Nat) : List Int := other.zipIdx.foldl (prI p.1 p.2) found
def ltM (one other : List Int) : List Int := one.zipIdx.foldl (ltO other) (List.replicate (one.length + other.length) 0)
theorem ltO_len (other : List Int) (f : List Int) (p : Int × Nat) : (ltO other f p).length = f.length := foldl_len _ (prI_len p.1 p.2) _ _
def R_law_turn_times (bs : List B) (r : B) : Prop := ∃ n k one l other, bs = [.int n, sq k one, sq l other] ∧ one.length + other.length ≤ 1000 ∧ (∀ e ∈ one, ∀ g ∈ other, CMulX e g) ∧ R_law_turn_cut [.int n, il (ltM one other)] r
abbrev st_law_turn_times : Stmt := top 74
theorem sc_law_turn_times : FnScope ["_law_order", "_law_one", "_law_other", "_law_found", "_law_at", "_law_entry", "_law_place", "_law_factor"] ["_law_order", "_law_one", "_law_other"] (defScope st_law_turn_times) := ⟨rfl, rfl, rfl, by decide +kernel, rfl, by decide +kernel, by decide +kernel⟩
def R_law_turn_power (bs : List B) (r : B) : Prop := ∃ n m, bs = [.int n, .int m] ∧ 1 ≤ n ∧ n ≤ 1000 ∧ R_law_turn_cut [.int n, il (List.replicate (m.fmod n).toNat 0 ++ [1])] r
abbrev st_law_turn_power : Stmt := top 75
theorem sc_law_turn_power : FnScope ["_law_order", "_law_many"] ["_law_order", "_law_many"] (defScope st_law_turn_power) := ⟨rfl, rfl, rfl, by decide +kernel, rfl, by decide +kernel, by decide +kernel⟩
def R_law_turn_whole (bs : List B) (r : B) : Prop := ∃ n m, bs = [.int n, .int m] ∧ R_law_turn_cut [.int n, il [m]] r
abbrev st_law_turn_whole : Stmt := top 76
theorem sc_law_turn_whole : FnScope ["_law_order", "_law_number"] ["_law_order", "_law_number"] (defScope st_law_turn_whole) := ⟨rfl, rfl, rfl, by decide +kernel, rfl, by decide +kernel, by decide +kernel⟩
/-! ### row_less, is_in_rows, ideal_size -/
def rlM (one : List Int) (many : Int) (other : List Int) : List Int := (one.zip other).map fun p => p.1 - many * p.2
def R_law_row_less (bs : List B) (r : B) : Prop := ∃ k l one many other, bs = [sq k one, .int many, sq l other] ∧ (∀ y ∈ other, CMulX many y) ∧ one.length ≤ 1000 ∧ r = it (rlM one many other)
abbrev st_law_row_less : Stmt := top 78
theorem sc_law_row_less : FnScope ["_law_one", "_law_many", "_law_other", "_law_a", "_law_b"] ["_law_one", "_law_many", "_law_other"] (defScope st_law_row_less) := ⟨rfl, rfl, rfl, by decide +kernel, rfl, by decide +kernel, by decide +kernel⟩
def liM : List (List Int × Nat) → List Int → Option Bool
  | [], _ => some true
  | (row, p) :: rest, left => if p < left.length ∧ p < row.length ∧ left.length ≤ 1000 ∧ row.getD p 0 ≠ 0 ∧ (row.getD p 0).natAbs.log2 < 9000 then
      (if (left.getD p 0).fmod (row.getD p 0) ≠ 0 then some false
      else if row.all (mulOk ((left.getD p 0).fdiv (row.getD p 0))) then liM rest (rlM left ((left.getD p 0).fdiv (row.getD p 0)) row) else none)
    else none
def R_law_is_in_rows (bs : List B) (r : B) : Prop := ∃ rows left b, bs = [rB rows, it left] ∧ liM rows.zipIdx left = some b ∧ r = .bl b
abbrev st_law_is_in_rows : Stmt := top 80
theorem sc_law_is_in_rows : FnScope ["_law_rows", "_law_x", "_law_left", "_law_at", "_law_row"] ["_law_rows", "_law_x"] (defScope st_law_is_in_rows) := ⟨rfl, rfl, rfl, by decide +kernel, rfl, by decide +kernel, by decide +kernel⟩
def R_law_ideal_size (bs : List B) (r : B) : Prop := ∃ rows sz, bs = [rB rows] ∧ szM rows = some sz ∧ r = .int sz
abbrev st_law_ideal_size : Stmt := top 82
theorem sc_law_ideal_size : FnScope ["_law_rows", "_law_found", "_law_at", "_law_row"] ["_law_rows"] (defScope st_law_ideal_size) := ⟨rfl, rfl, rfl, by decide +kernel, rfl, by decide +kernel, by decide +kernel⟩
section
variable {P : Program} {w : World} {K : PySem.W.Frag} {mg : Str → Option Value} {base : Heap} {C : Ct}
theorem ok_law_turn_cut {f : Addr} {fd : FuncData} (F : Fun K "_law_turn_cut" "_law_turn_cut" st_law_turn_cut f fd) (T : Bi mg) (D : Dn P w K mg base "_law_cyclotomic" 2 (spR C R_law_cyclotomic)) (hb : Binds K fd ["_law_order", "_law_row"] []) : FnR P w K mg base CX0 3 f (spR C R_law_turn_cut) := by
  refine def_ok F sc_law_turn_cut hb (fun bs r h => ?_) (fun cdv A outer s H E bs r hr h => ?_)
  · obtain ⟨n, row, poly, q, rfl, _⟩ := h
    rfl
  · obtain ⟨n, row, poly, q, rfl, hp, hq, rfl⟩ := h
    unfold ctM at hq
    split at hq
    · rename_i hg
      obtain ⟨g1, g2, g3⟩ := hg
      cases hz : (List.range (row.length + n - (poly.length - 1))).foldlM (ctO poly (poly.length - 1) (row.length + n)) (row ++ List.replicate n 0) with
      | none => rw [hz] at hq; cases hq
      | some l =>
        rw [hz] at hq
        obtain ⟨hl, rfl⟩ := grd_some (show grd _ _ = some q from hq)
        have hl' : poly.length - 1 ≤ l.length := of_decide_eq_true hl
        have lp : (iB poly).length = poly.length := List.length_map ..
        have lr : (iB row).length = row.length := List.length_map ..
        refine q_parVO (x := il poly) (o := .lst (iB (row ++ List.replicate n 0))) 2 3 (e_call (R := R_law_cyclotomic) D hr (a_cons (e_var 0) a_nil) hp) (f_cv (f_cat (xs := iB row) (ys := iB (List.replicate n 0)) (e_of (f_list true T.list (e_var 1))) (e_of (f_cv (f_rep (xs := [.int 0]) (k := (n : Int)) (e_lst (a_cons e_int a_nil) (by decide)) (e_var 0) (by omega) (by omega) (by
          show 1 * _ ≤ _
          rw [sizeLine_eq, Int.toNat_natCast]
          omega)) (by rw [Int.toNat_natCast, flat_rep]))) (by rw [lr, List.length_map, List.length_replicate, sizeLine_eq]; omega)) (List.map_append ..).symm) rfl sc_law_turn_cut.nd ?_
        have es : ((poly.length : Int) - 1) = ((poly.length - 1 : Nat) : Int) := by omega
        refine q_set (x := .int ((poly.length - 1 : Nat) : Int)) 4 (e_cv (e_sub (e_len true T.len (e_var 2)) e_int) (by rw [lp, es])) sc_law_turn_cut.nd ?_
        have lL : (iB (row ++ List.replicate n 0)).length = row.length + n := by rw [List.length_map, List.length_append, List.length_replicate]
        have rg : RgC (((row.length + n : Nat) : Int) - 1) (((poly.length - 1 : Nat) : Int) - 1) (-1) (row.length + n - (poly.length - 1)) := by
          have := RgC.neg (i := ((row.length + n : Nat) : Int) - 1) (j := ((poly.length - 1 : Nat) : Int) - 1) (by omega) (by omega) (by omega) (by omega)
          have e : (((row.length + n : Nat) : Int) - 1 - (((poly.length - 1 : Nat) : Int) - 1)).toNat = row.length + n - (poly.length - 1) := by omega
          rw [e] at this
          exact this
        refine q_forZ (fun (s : List Int) => [.va (.int n), .va (il row), .va (il poly), .ow (.lst (iB s)), .va (.int ((poly.length - 1 : Nat) : Int)), .un, .un, .un, .un]) (List.range (row.length + n - (poly.length - 1))) (fun (i : Nat) => B.int (((row.length + n : Nat) : Int) - 1 + (i : Int) * -1)) (ctO poly (poly.length - 1) (row.length + n)) (row ++ List.replicate n 0) l PassesOwn.never rfl
          (v_rng3 (lo := ((row.length + n : Nat) : Int) - 1) (hi := ((poly.length - 1 : Nat) : Int) - 1) (st := -1) T.range (a_cons (e_cv (e_sub (e_lenO 3 T.len) e_int) (by rw [lL])) (a_cons (e_sub (e_var 4) e_int) (a_cons (e_neg e_int) a_nil))) rg) hz (Weak.refl _) (fun u u' i hi hst => ?_) ?_
        · have hi' := List.mem_range.mp hi
          have ea : ((row.length + n : Nat) : Int) - 1 + (i : Int) * -1 = ((row.length + n - 1 - i : Nat) : Int) := by omega
          unfold ctO at hst
          split at hst
          · rename_i hlt
            refine ⟨_, _, g_name 5 sc_law_turn_cut.nd, ?_⟩
            rw [ea]
            refine q_set (x := .int (u.getD (row.length + n - 1 - i) 0)) 6 (e_ixO (xs := iB u) 3 rfl (e_var 5) (atI_iB (atI_D hlt))) sc_law_turn_cut.nd ?_
            refine q_if (k := !decide (u.getD (row.length + n - 1 - i) 0 = 0)) (c_ne (e_var 6) e_int) (fun h => ?_) (fun h => ?_)
            · rw [if_neg (show ¬ u.getD (row.length + n - 1 - i) 0 = 0 by simpa using h)] at hst
              refine q_forZ (fun (s : List Int) => [.va (.int n), .va (il row), .va (il poly), .ow (.lst (iB s)), .va (.int ((poly.length - 1 : Nat) : Int)), .va (.int ((row.length + n - 1 - i : Nat) : Int)), .va (.int (u.getD (row.length + n - 1 - i) 0)), .un, .un]) (List.range (poly.length - 1 + 1)) (fun (i : Nat) => B.int (0 + (i : Int))) (ctI poly (poly.length - 1) (row.length + n - 1 - i) (u.getD (row.length + n - 1 - i) 0)) u u' PassesOwn.never rfl
                (v_rng1 (n := poly.length - 1 + 1) T.range (a_cons (e_cv (j := ((poly.length - 1 + 1 : Nat) : Int)) (e_add (i := ((poly.length - 1 : Nat) : Int)) (j := 1) (e_var 4) e_int) (by omega)) a_nil) (by omega)) hst (Weak.refl _) (fun v v' j hj hst => ?_) ?_
              · obtain ⟨hgd, rfl⟩ := grd_some hst
                simp only [Bool.and_eq_true, decide_eq_true_iff] at hgd
                obtain ⟨⟨d1, d2⟩, d3⟩ := hgd
                have esp : ((row.length + n - 1 - i : Nat) : Int) - ((poly.length - 1 : Nat) : Int) + (0 + (j : Int)) = ((row.length + n - 1 - i - (poly.length - 1) + j : Nat) : Int) := by omega
                have lv : (iB v).length = v.length := List.length_map ..
                refine ⟨_, _, g_name 7 sc_law_turn_cut.nd, ?_⟩
                refine q_set (x := .int ((row.length + n - 1 - i - (poly.length - 1) + j : Nat) : Int)) 8 (e_cv (e_add (e_sub (e_var 5) (e_var 4)) (e_var 7)) esp) sc_law_turn_cut.nd ?_
                refine q_put (xs := iB v) (x := .int (v.getD (row.length + n - 1 - i - (poly.length - 1) + j) 0 - u.getD (row.length + n - 1 - i) 0 * poly.getD j 0)) (j := row.length + n - 1 - i - (poly.length - 1) + j) (k := ((row.length + n - 1 - i - (poly.length - 1) + j : Nat) : Int)) 3 (e_sub (e_ixO (xs := iB v) 3 rfl (e_var 8) (atI_iB (atI_D d1))) (e_mul (e_var 6) (e_ixL (xs := iB poly) (e_var 2) (e_var 7) (atI_iB (by rw [show (0 + (j : Int)) = (j : Int) from by omega]; exact atI_D d2))) (mulOk_of d3))) (e_var 8) (by rw [lv]; exact ixN_nat d1) ?_
                rw [show (iB v).set (row.length + n - 1 - i - (poly.length - 1) + j) (.int (v.getD (row.length + n - 1 - i - (poly.length - 1) + j) 0 - u.getD (row.length + n - 1 - i) 0 * poly.getD j 0)) = iB (v.set (row.length + n - 1 - i - (poly.length - 1) + j) (v.getD (row.length + n - 1 - i - (poly.length - 1) + j) 0 - u.getD (row.length + n - 1 - i) 0 * poly.getD j 0)) from (List.map_set ..).symm]
                exact q_nil (loop_nx (by repeat (first | exact Weak.nil | apply Weak.eq | apply Weak.un)) rfl)
              · exact q_nil (q_nil (loop_nx (by repeat (first | exact Weak.nil | apply Weak.eq | apply Weak.un)) rfl))
            · rw [if_pos (show u.getD (row.length + n - 1 - i) 0 = 0 by simpa using h)] at hst
              cases hst
              exact q_nil (q_nil (loop_nx (by repeat (first | exact Weak.nil | apply Weak.eq | apply Weak.un)) rfl))
          · cases hst
        · have lll : (iB l).length = l.length := List.length_map ..
          refine q_frz (xs := iB l) 3 (k := ?_)
          refine q_ret (e_tuple true T.tuple (e_cb (e_of (f_slL (xs := iB l) (i := none) (j := some ((poly.length - 1 : Nat) : Int)) (e_var 3) i_none (i_some (e_var 4)))) (by rw [cut_take _ _ (by rw [lll]; exact hl')]; show B.lst _ = il _; rw [il, iB, iB, List.map_take]))) rfl
    · cases hq
theorem ok_law_turn_times {f : Addr} {fd : FuncData} (F : Fun K "_law_turn_times" "_law_turn_times" st_law_turn_times f fd) (T : Bi mg) (D : Dn P w K mg base "_law_turn_cut" 3 (spR C R_law_turn_cut)) (hb : Binds K fd ["_law_order", "_law_one", "_law_other"] []) : FnR P w K mg base CX0 4 f (spR C R_law_turn_times) := by
  refine def_ok F sc_law_turn_times hb (fun bs r h => ?_) (fun cdv A outer s H E bs r hr h => ?_)
  · obtain ⟨n, k, one, l, other, rfl, _⟩ := h
    rfl
  · obtain ⟨n, k, one, l, other, rfl, hl, h4, h5⟩ := h
    have lk : ∀ (b : Bool) (xs : List Int), (match b with | true => (iB xs).length | false => (iB xs).length) = xs.length := fun b xs => by cases b <;> exact List.length_map ..
    have l1 : (iB one).length = one.length := List.length_map ..
    have l2 : (iB other).length = other.length := List.length_map ..
    refine q_own (o := .lst (iB (List.replicate (one.length + other.length) 0))) 3 (f_cv (f_rep (xs := [.int 0]) (k := ((one.length + other.length : Nat) : Int)) (e_lst (a_cons e_int a_nil) (by decide)) (e_cv (e_add (e_len k T.len (e_var 1)) (e_len l T.len (e_var 2))) (by rw [l1, l2]; omega)) (by omega) (by omega) (by
      show 1 * _ ≤ _
      rw [sizeLine_eq, Int.toNat_natCast]
      omega)) (by rw [Int.toNat_natCast, flat_rep])) sc_law_turn_times.nd ?_
    refine q_forP (fun (s : List Int) => [.va (.int n), .va (sq k one), .va (sq l other), .ow (.lst (iB s)), .un, .un, .un, .un]) one.zipIdx (fun p => .tup [.int (p.2 : Int), .int p.1]) (ltO other) (List.replicate (one.length + other.length) 0) (fun s => s.length = one.length + other.length) PassesOwn.never rfl
      (v_cv (v_enum (k := k) T.enum (e_var 1)) (enumB_iB one)) (Weak.refl _) (by rw [List.length_replicate]) (fun u p hp hu => ?_) (fun _ => ?_)
    · obtain ⟨p1, p2, _⟩ := mem_zipIdx hp
      refine ⟨by rw [ltO_len]; exact hu, _, _, g_pair 4 5 rfl sc_law_turn_times.nd, ?_⟩
      refine q_forP (fun (s : List Int) => [.va (.int n), .va (sq k one), .va (sq l other), .ow (.lst (iB s)), .va (.int (p.2 : Int)), .va (.int p.1), .un, .un]) other.zipIdx (fun p => .tup [.int (p.2 : Int), .int p.1]) (prI p.1 p.2) u (fun s => s.length = one.length + other.length) PassesOwn.never rfl
        (v_cv (v_enum (k := l) T.enum (e_var 2)) (enumB_iB other)) (Weak.refl _) hu (fun v q hq hv => ?_) (fun _ => ?_)
      · obtain ⟨q1, q2, _⟩ := mem_zipIdx hq
        refine ⟨by rw [prI_len]; exact hv, _, _, g_pair 6 7 rfl sc_law_turn_times.nd, ?_⟩
        have ei : ((p.2 : Int) + (q.2 : Int)) = ((p.2 + q.2 : Nat) : Int) := by omega
        have lv : (iB v).length = v.length := List.length_map ..
        refine q_put (xs := iB v) (x := .int (v.getD (p.2 + q.2) 0 + p.1 * q.1)) (j := p.2 + q.2) (k := (p.2 : Int) + (q.2 : Int)) 3 (e_add (e_ixO (xs := iB v) 3 rfl (e_add (e_var 4) (e_var 6)) (by rw [ei]; exact atI_iB (atI_D (by omega)))) (e_mul (e_var 5) (e_var 7) (h4 _ p2 _ q2))) (e_add (e_var 4) (e_var 6)) (by rw [lv, ei]; exact ixN_nat (by omega)) ?_
        rw [show (iB v).set (p.2 + q.2) (.int (v.getD (p.2 + q.2) 0 + p.1 * q.1)) = iB (prI p.1 p.2 v q) from (List.map_set ..).symm]
        exact q_nil (loop_nx (by repeat (first | exact Weak.nil | apply Weak.eq | apply Weak.un)) rfl)
      · exact q_nil (loop_nx (by repeat (first | exact Weak.nil | apply Weak.eq | apply Weak.un)) rfl)
    · refine q_frz (xs := iB (ltM one other)) 3 (k := ?_)
      exact q_ret (e_call (R := R_law_turn_cut) D hr (a_cons (e_var 0) (a_cons (e_var 3) a_nil)) h5) rfl
theorem ok_law_turn_power {f : Addr} {fd : FuncData} (F : Fun K "_law_turn_power" "_law_turn_power" st_law_turn_power f fd) (T : Bi mg) (D : Dn P w K mg base "_law_turn_cut" 3 (spR C R_law_turn_cut)) (hb : Binds K fd ["_law_order", "_law_many"] []) : FnR P w K mg base CX0 4 f (spR C R_law_turn_power) := by
  refine def_ok F sc_law_turn_power hb (fun bs r h => ?_) (fun cdv A outer s H E bs r hr h => ?_)
  · obtain ⟨n, m, rfl, _⟩ := h
    rfl
  · obtain ⟨n, m, rfl, h1, h2, h3⟩ := h
    have b1 : 0 ≤ m.fmod n := Int.fmod_nonneg_of_pos _ (by omega)
    have b2 : m.fmod n < n := Int.fmod_lt_of_pos _ (by omega)
    refine q_ret (e_call (R := R_law_turn_cut) D hr (a_cons (e_var 0) (a_cons (e_of (f_cv (f_cat (xs := iB (List.replicate (m.fmod n).toNat 0)) (ys := [.int 1]) (e_of (f_cv (f_rep (xs := [.int 0]) (k := m.fmod n) (e_lst (a_cons e_int a_nil) (by decide)) (e_mod (e_intI T.int (e_var 1)) (e_var 0) (by omega)) (by omega) (by omega) (by
      show 1 * _ ≤ _
      rw [sizeLine_eq]
      omega)) (by rw [flat_rep]))) (e_lst (a_cons e_int a_nil) (by decide)) (by
      rw [List.length_map, List.length_replicate, sizeLine_eq]
      show _ + 1 ≤ _
      omega) ) (by show _ = List.map _ (_ ++ _); rw [List.map_append]; rfl))) a_nil)) h3) rfl
theorem ok_law_turn_whole {f : Addr} {fd : FuncData} (F : Fun K "_law_turn_whole" "_law_turn_whole" st_law_turn_whole f fd) (D : Dn P w K mg base "_law_turn_cut" 3 (spR C R_law_turn_cut)) (hb : Binds K fd ["_law_order", "_law_number"] []) : FnR P w K mg base CX0 4 f (spR C R_law_turn_whole) := by
  refine def_ok F sc_law_turn_whole hb (fun bs r h => ?_) (fun cdv A outer s H E bs r hr h => ?_)
  · obtain ⟨n, m, rfl, _⟩ := h
    rfl
  · obtain ⟨n, m, rfl, h3⟩ := h
    exact q_ret (e_call (R := R_law_turn_cut) D hr (a_cons (e_var 0) (a_cons (e_lst (a_cons (e_var 1) a_nil) (by show 1 ≤ sizeLine; decide)) a_nil)) h3) rfl
theorem ok_law_row_less {f : Addr} {fd : FuncData} (F : Fun K "_law_row_less" "_law_row_less" st_law_row_less f fd) (T : Bi mg) (hb : Binds K fd ["_law_one", "_law_many", "_law_other"] []) : FnR P w K mg base CX0 1 f (spR C R_law_row_less) := by
  refine def_ok F sc_law_row_less hb (fun bs r h => ?_) (fun cdv A outer s H E bs r hr h => ?_)
  · obtain ⟨k, l, one, many, other, rfl, _⟩ := h
    rfl
  · obtain ⟨k, l, one, many, other, rfl, h1, h2, rfl⟩ := h
    exact q_ret (e_tuple true T.tuple (e_of (f_cv (f_lcA (own := [("_law_a", 3), ("_law_b", 4)]) (one.zip other) (fun p => .tup [.int p.1, .int p.2]) (fun p => [.va (sq k one), .va (.int many), .va (sq l other), .va (.int p.1), .va (.int p.2)]) (fun p => .int (p.1 - many * p.2)) rfl sc_law_row_less.nd
      (v_zipI (k := k) (l := l) T.zip (e_var 0) (e_var 2)) (blkOk_by (N := ["_law_one", "_law_many", "_law_other", "_law_a", "_law_b"]) (sc := defScope st_law_row_less) (by decide +kernel)) (blk_of _ _) (fun _ _ _ _ _ z hz => g_pair 3 4 rfl sc_law_row_less.nd)
      (fun _ _ _ _ _ z hz => e_sub (e_var 3) (e_mul (e_var 1) (e_var 4) (h1 _ (List.of_mem_zip hz).2))) (by rw [List.length_zip, sizeLine_eq]; omega)) (ys := iB (rlM one many other)) (by rw [iB, rlM, List.map_map]; rfl)))) rfl
theorem ok_law_is_in_rows {f : Addr} {fd : FuncData} (F : Fun K "_law_is_in_rows" "_law_is_in_rows" st_law_is_in_rows f fd) (T : Bi mg) (D : Dn P w K mg base "_law_row_less" 1 (spR C R_law_row_less)) (hb : Binds K fd ["_law_rows", "_law_x"] []) : FnR P w K mg base CX0 2 f (spR C R_law_is_in_rows) := by
  refine def_ok F sc_law_is_in_rows hb (fun bs r h => ?_) (fun cdv A outer s H E bs r hr h => ?_)
  · obtain ⟨rows, left, b, rfl, _⟩ := h
    rfl
  · obtain ⟨rows, left, b, rfl, hm, rfl⟩ := h
    refine q_set (x := it left) 2 (e_tuple false T.tuple (e_var 1)) sc_law_is_in_rows.nd ?_
    refine q_for (xs := rows.zipIdx.map fun p => B.tup [.int (p.2 : Int), it p.1]) (W := fun i ρ => ∃ l, ρ = [.va (rB rows), .va (it left), .va (it l), .un, .un] ∧ liM (rows.zipIdx.drop i) l = some b) PassesOwn.never rfl
      (v_cv (v_enum (k := false) T.enum (e_var 0)) (enumB_map it rows)) ⟨_, Weak.refl _, left, rfl, by simpa using hm⟩ (fun i x ρ' hx ⟨l, er, hl⟩ => ?_) (fun ρ' ⟨l, er, hl⟩ => ?_)
    · subst er
      rw [List.getElem?_map] at hx
      cases hz : rows.zipIdx[i]? with
      | none => rw [hz] at hx; cases hx
      | some p =>
        rw [hz] at hx
        cases hx
        obtain ⟨row, pl⟩ := p
        rw [drop_cons hz] at hl
        unfold liM at hl
        split at hl
        · rename_i hg
          obtain ⟨g1, g2, g3, g4, g5⟩ := hg
          refine ⟨_, _, g_pair 3 4 rfl sc_law_is_in_rows.nd, ?_⟩
          have a1 : atI (iB l) (pl : Int) = some (.int (l.getD pl 0)) := atI_iB (atI_D g1)
          have a2 : atI (iB row) (pl : Int) = some (.int (row.getD pl 0)) := atI_iB (atI_D g2)
          refine q_if (k := !decide ((l.getD pl 0).fmod (row.getD pl 0) = 0)) (c_ne (e_mod (e_ixT (xs := iB l) (e_var 2) (e_var 3) a1) (e_ixT (xs := iB row) (e_var 4) (e_var 3) a2) g4) e_int) (fun h => ?_) (fun h => ?_)
          · rw [if_pos (show (l.getD pl 0).fmod (row.getD pl 0) ≠ 0 by simpa using h)] at hl
            cases hl
            exact q_ret e_bl rfl
          · rw [if_neg (show ¬ (l.getD pl 0).fmod (row.getD pl 0) ≠ 0 by simpa using h)] at hl
            split at hl
            · rename_i hm2
              rw [List.all_eq_true] at hm2
              refine q_nil (q_set (x := it (rlM l ((l.getD pl 0).fdiv (row.getD pl 0)) row)) 2 (e_call (R := R_law_row_less) D hr (a_cons (e_var 2) (a_cons (e_div (e_ixT (xs := iB l) (e_var 2) (e_var 3) a1) (e_ixT (xs := iB row) (e_var 4) (e_var 3) a2) ⟨g4, g5⟩) (a_cons (e_var 4) a_nil))) ⟨false, false, l, _, row, rfl, fun y hy => mulOk_of (hm2 y hy), g3, rfl⟩) sc_law_is_in_rows.nd ?_)
              exact q_nil (loop_nx (by repeat (first | exact Weak.nil | apply Weak.eq | apply Weak.un)) ⟨_, rfl, hl⟩)
            · cases hl
        · cases hl
    · subst er
      rw [List.length_map, List.drop_length] at hl
      cases hl
      exact q_ret e_bl rfl
theorem ok_law_ideal_size {f : Addr} {fd : FuncData} (F : Fun K "_law_ideal_size" "_law_ideal_size" st_law_ideal_size f fd) (T : Bi mg) (hb : Binds K fd ["_law_rows"] []) : FnR P w K mg base CX0 1 f (spR C R_law_ideal_size) := by
  refine def_ok F sc_law_ideal_size hb (fun bs r h => ?_) (fun cdv A outer s H E bs r hr h => ?_)
  · obtain ⟨rows, sz, rfl, _⟩ := h
    rfl
  · obtain ⟨rows, sz, rfl, hsz, rfl⟩ := h
    refine q_set (x := .int 1) 1 e_int sc_law_ideal_size.nd ?_
    refine q_forZ (fun (s : Int) => [.va (rB rows), .va (.int s), .un, .un]) rows.zipIdx (fun p => .tup [.int (p.2 : Int), it p.1]) szS 1 sz PassesOwn.never rfl
      (v_cv (v_enum (k := false) T.enum (e_var 0)) (enumB_map it rows)) hsz (Weak.refl _) (fun u u' p hp hst => ?_) ?_
    · unfold szS at hst
      split at hst
      · rename_i hg
        cases hst
        refine ⟨_, _, g_pair 2 3 rfl sc_law_ideal_size.nd, ?_⟩
        refine q_set (x := .int (u * p.1.getD p.2 0)) 1 (e_mul (e_var 1) (e_ixT (xs := iB p.1) (e_var 3) (e_var 2) (atI_iB (atI_D hg.1))) (mulOk_of hg.2)) sc_law_ideal_size.nd ?_
        exact q_nil (loop_nx (by repeat (first | exact Weak.nil | apply Weak.eq | apply Weak.un)) rfl)
      · cases hst
    · exact q_ret (e_var 1) rfl
end
end Q
end

/-! text W18 -/
section
set_option Elab.async false
set_option linter.all false
set_option maxRecDepth 100000
/-! the dice: roll, pick, small_order, turn_drawn, turn_other, ideal_drawn -/
namespace Q
open PySem PySem.Spec PyProof.Rows L2
/-- the dice: three numbers -/
structure Dice where
  a : Int
  b : Int
  c : Int
def Dice.bs (d : Dice) : List B := iB [d.a, d.b, d.c]
/-- the numbers of the dice stay in this word -/
def Dice.ok (d : Dice) : Prop := d.a.natAbs < 2 ^ 1000 ∧ d.b.natAbs < 2 ^ 1000 ∧ 0 ≤ d.c ∧ d.c < 2 ^ 60
def rollOne (d : Dice) : Int := (d.b + 86028121 * (d.c + 1)).fmod 2305843009213693921
def rollTwo (d : Dice) : Int := (rollOne d * rollOne d + 89 * (d.c + 1)).fmod 2305843009213693907 * 8675309 + rollOne d
def rollV (d : Dice) (t : Int) : Int := if 0 < d.a then d.a.fmod t else ((rollTwo d).fdiv 131072).fmod t
def rollD (d : Dice) (t : Int) : Dice := if 0 < d.a then ⟨d.a.fdiv t, d.b, d.c⟩ else ⟨d.a, d.b, d.c + 1⟩
def R_law_roll (ds bs : List B) (r : B) (ds' : List B) : Prop := ∃ (d : Dice) (t : Int), ds = d.bs ∧ bs = [.int t] ∧ d.ok ∧ 1 ≤ t ∧ t ≤ 1000 ∧ r = .int (rollV d t) ∧ ds' = (rollD d t).bs
abbrev st_law_roll : Stmt := top 68
theorem sc_law_roll : FnScope ["_law_dice_here", "_law_total", "_law_found", "_law_one", "_law_two"] ["_law_dice_here", "_law_total"] (defScope st_law_roll) := ⟨rfl, rfl, rfl, by decide +kernel, rfl, by decide +kernel, by decide +kernel⟩
theorem roll_range (d : Dice) {t : Int} (h : 1 ≤ t) : 0 ≤ rollV d t ∧ rollV d t < t := by
  unfold rollV
  split <;> exact ⟨Int.fmod_nonneg_of_pos _ (by omega), Int.fmod_lt_of_pos _ (by omega)⟩
theorem rollOne_range (d : Dice) : 0 ≤ rollOne d ∧ rollOne d < 2305843009213693921 := ⟨Int.fmod_nonneg_of_pos _ (by omega), Int.fmod_lt_of_pos _ (by omega)⟩
def R_law_pick (ds bs : List B) (r : B) (ds' : List B) : Prop := ∃ (d : Dice) (k : Bool) (xs : List B), ds = d.bs ∧ bs = [seqB k xs] ∧ d.ok ∧ 1 ≤ xs.length ∧ xs.length ≤ 1000 ∧ xs[(rollV d xs.length).toNat]? = some r ∧ ds' = (rollD d xs.length).bs
abbrev st_law_pick : Stmt := top 69
theorem sc_law_pick : FnScope ["_law_dice_here", "_law_items"] ["_law_dice_here", "_law_items"] (defScope st_law_pick) := ⟨rfl, rfl, rfl, by decide +kernel, rfl, by decide +kernel, by decide +kernel⟩
section
variable {P : Program} {w : World} {K : PySem.W.Frag} {mg : Str → Option Value} {base : Heap} {C : Ct}
theorem ok_law_roll {f : Addr} {fd : FuncData} (F : Fun K "_law_roll" "_law_roll" st_law_roll f fd) (T : Bi mg) (hb : Binds K fd ["_law_dice_here", "_law_total"] []) : FnR P w K mg base CX0 1 f (spD C R_law_roll) := by
  refine defD_ok F sc_law_roll hb (fun ds bs r ds' h => ?_) (fun cdv A outer s H E ds bs r ds' hr h => ?_)
  · obtain ⟨d, t, rfl, rfl, _⟩ := h
    rfl
  · obtain ⟨d, t, rfl, rfl, hd, h1, h2, rfl, rfl⟩ := h
    have g0 : atI d.bs 0 = some (.int d.a) := rfl
    have g1 : atI d.bs 1 = some (.int d.b) := rfl
    have g2 : atI d.bs 2 = some (.int d.c) := rfl
    obtain ⟨d1, d2, d3, d4⟩ := hd
    refine q_if (k := decide (0 < d.a)) (c_gt (e_ixO (xs := d.bs) 0 rfl e_int g0) e_int) (fun h => ?_) (fun h => ?_)
    · have h0 := of_decide_eq_true h
      rw [show rollV d t = d.a.fmod t from if_pos h0, show rollD d t = ⟨d.a.fdiv t, d.b, d.c⟩ from if_pos h0]
      refine q_set (x := .int (d.a.fmod t)) 2 (e_mod (e_intI T.int (e_ixO (xs := d.bs) 0 rfl e_int g0)) (e_var 1) (by omega)) sc_law_roll.nd ?_
      refine q_put (xs := d.bs) (x := .int (d.a.fdiv t)) (j := 0) (k := 0) 0 (e_div (e_ixO (xs := d.bs) 0 rfl e_int g0) (e_var 1) ⟨by omega, by
        have : t.natAbs < 2 ^ 11 := by omega
        have := (Nat.log2_lt (by omega)).mpr this
        omega⟩) e_int rfl ?_
      exact q_ret (e_var 2) ⟨rfl, rfl⟩
    · have h0 := of_decide_eq_false h
      rw [show rollV d t = ((rollTwo d).fdiv 131072).fmod t from if_neg h0, show rollD d t = ⟨d.a, d.b, d.c + 1⟩ from if_neg h0]
      refine q_nil (q_put (xs := d.bs) (x := .int (d.c + 1)) (j := 2) (k := 2) 0 (e_add (e_ixO (xs := d.bs) 0 rfl e_int g2) e_int) e_int rfl ?_)
      have k1 : atI (d.bs.set 2 (.int (d.c + 1))) 1 = some (.int d.b) := rfl
      have k2 : atI (d.bs.set 2 (.int (d.c + 1))) 2 = some (.int (d.c + 1)) := rfl
      have ro := rollOne_range d
      refine q_set (x := .int (rollOne d)) 3 (e_mod (e_intI T.int (e_add (e_ixO (xs := d.bs.set 2 (.int (d.c + 1))) 0 rfl e_int k1) (e_mul e_int (e_ixO (xs := d.bs.set 2 (.int (d.c + 1))) 0 rfl e_int k2) (cmul_small (by omega) (by omega))))) e_int (by decide)) sc_law_roll.nd ?_
      have rt : 0 ≤ (rollOne d * rollOne d + 89 * (d.c + 1)).fmod 2305843009213693907 ∧ (rollOne d * rollOne d + 89 * (d.c + 1)).fmod 2305843009213693907 < 2305843009213693907 := ⟨Int.fmod_nonneg_of_pos _ (by omega), Int.fmod_lt_of_pos _ (by omega)⟩
      refine q_set (x := .int (rollTwo d)) 4 (e_add (e_mul (e_mod (e_intI T.int (e_add (e_mul (e_var 3) (e_var 3) (cmul_small (by omega) (by omega))) (e_mul e_int (e_ixO (xs := d.bs.set 2 (.int (d.c + 1))) 0 rfl e_int k2) (cmul_small (by omega) (by omega))))) e_int (by decide)) e_int (cmul_small (by omega) (by omega))) (e_var 3)) sc_law_roll.nd ?_
      exact q_ret (e_mod (e_intI T.int (e_div (e_var 4) e_int ⟨by decide, by decide⟩)) (e_var 1) (by omega)) ⟨rfl, rfl⟩
theorem ok_law_pick {f : Addr} {fd : FuncData} (F : Fun K "_law_pick" "_law_pick" st_law_pick f fd) (T : Bi mg) (D : Dn P w K mg base "_law_roll" 1 (spD C R_law_roll)) (hb : Binds K fd ["_law_dice_here", "_law_items"] []) : FnR P w K mg base CX0 2 f (spD C R_law_pick) := by
  refine defD_ok F sc_law_pick hb (fun ds bs r ds' h => ?_) (fun cdv A outer s H E ds bs r ds' hr h => ?_)
  · obtain ⟨d, k, xs, rfl, rfl, _⟩ := h
    rfl
  · obtain ⟨d, k, xs, rfl, rfl, hd, h1, h2, h3, rfl⟩ := h
    have rr := roll_range d (t := (xs.length : Int)) (by omega)
    have er : rollV d xs.length = ((rollV d xs.length).toNat : Int) := by omega
    have ha : atI xs (rollV d xs.length) = some r := by
      rw [er]
      unfold atI
      rw [ixN_nat (by omega)]
      exact h3
    cases k with
    | true => exact q_ret (e_ixL (xs := xs) (e_var 1) (e_callD (R := R_law_roll) 0 D hr (a_cons (e_len true T.len (e_var 1)) a_nil) ⟨d, _, rfl, rfl, hd, by omega, by omega, rfl, rfl⟩) ha) ⟨rfl, rfl⟩
    | false => exact q_ret (e_ixT (xs := xs) (e_var 1) (e_callD (R := R_law_roll) 0 D hr (a_cons (e_len false T.len (e_var 1)) a_nil) ⟨d, _, rfl, rfl, hd, by omega, by omega, rfl, rfl⟩) ha) ⟨rfl, rfl⟩
end
end Q
end

/-! text W19 -/
section
set_option Elab.async false
set_option linter.all false
set_option maxRecDepth 100000
/-! the dice: small_order, turn_drawn, turn_other, ideal_drawn -/
namespace Q
open PySem PySem.Spec PyProof.Rows L2
/-- the dice may be rolled n times more -/
def Dice.okN (d : Dice) (n : Nat) : Prop := d.a.natAbs < 2 ^ 1000 ∧ d.b.natAbs < 2 ^ 1000 ∧ 0 ≤ d.c ∧ d.c + n < 2 ^ 60
theorem Dice.okN.ok {d : Dice} {n : Nat} (h : d.okN n) : d.ok := ⟨h.1, h.2.1, h.2.2.1, by have := h.2.2.2; omega⟩
theorem Dice.okN.less {d : Dice} {n m : Nat} (h : d.okN n) (l : m ≤ n) : d.okN m := ⟨h.1, h.2.1, h.2.2.1, by have := h.2.2.2; omega⟩
theorem fdiv_abs {a t : Int} (h : 0 < a) (ht : 1 ≤ t) : (a.fdiv t).natAbs ≤ a.natAbs := by
  rw [Int.fdiv_eq_ediv_of_nonneg _ (by omega)]
  have h1 : a / t ≤ a := Int.ediv_le_self _ (by omega)
  have h2 : 0 ≤ a / t := Int.ediv_nonneg (by omega) (by omega)
  omega
theorem Dice.okN.roll {d : Dice} {n : Nat} {t : Int} (h : d.okN (n + 1)) (ht : 1 ≤ t) : (rollD d t).okN n := by
  obtain ⟨h1, h2, h3, h4⟩ := h
  unfold rollD
  split
  · rename_i h0
    have := fdiv_abs h0 ht
    exact ⟨Nat.lt_of_le_of_lt this h1, h2, h3, by show d.c + n < _; omega⟩
  · exact ⟨h1, h2, by show 0 ≤ d.c + 1; omega, by show d.c + 1 + n < _; omega⟩
def orders : List Int := [3, 4, 4, 5, 5, 6, 7, 8, 8, 9, 10, 12, 12, 14]
def orderV (d : Dice) : Int := orders.getD (rollV d 14).toNat 0
def R_law_small_order (ds bs : List B) (r : B) (ds' : List B) : Prop := ∃ d : Dice, ds = d.bs ∧ bs = [] ∧ d.ok ∧ r = .int (orderV d) ∧ ds' = (rollD d 14).bs
abbrev st_law_small_order : Stmt := top 83
theorem sc_law_small_order : FnScope ["_law_dice_here"] ["_law_dice_here"] (defScope st_law_small_order) := ⟨rfl, rfl, rfl, by decide +kernel, rfl, by decide +kernel, by decide +kernel⟩
/-! ### turn_drawn -/
def tdS (most : Int) (s : Dice × List Int) (_ : Nat) : Dice × List Int :=
  if rollV s.1 2 = 0 then (rollD (rollD s.1 2) (2 * most + 1), s.2 ++ [rollV (rollD s.1 2) (2 * most + 1) - most]) else (rollD s.1 2, s.2 ++ [0])
def tdM (d : Dice) (most : Int) (size : Nat) : Dice × List Int := (List.range size).foldl (tdS most) (d, [])
def R_law_turn_drawn (ds bs : List B) (r : B) (ds' : List B) : Prop := ∃ (d : Dice) (n most : Int) (poly : List Int), ds = d.bs ∧ bs = [.int n, .int most] ∧ R_law_cyclotomic [.int n] (il poly) ∧ 1 ≤ poly.length ∧ poly.length ≤ 100 ∧ d.okN 200 ∧ 0 ≤ most ∧ most ≤ 100 ∧
  r = it (tdM d most (poly.length - 1)).2 ∧ ds' = (tdM d most (poly.length - 1)).1.bs
abbrev st_law_turn_drawn : Stmt := top 77
theorem sc_law_turn_drawn : FnScope ["_law_dice_here", "_law_order", "_law_most", "_law_size", "_law_found", "_law_at"] ["_law_dice_here", "_law_order", "_law_most"] (defScope st_law_turn_drawn) := ⟨rfl, rfl, rfl, by decide +kernel, rfl, by decide +kernel, by decide +kernel⟩
section
variable {P : Program} {w : World} {K : PySem.W.Frag} {mg : Str → Option Value} {base : Heap} {C : Ct}
theorem ok_law_small_order {f : Addr} {fd : FuncData} (F : Fun K "_law_small_order" "_law_small_order" st_law_small_order f fd) (D : Dn P w K mg base "_law_pick" 2 (spD C R_law_pick)) (hb : Binds K fd ["_law_dice_here"] []) : FnR P w K mg base CX0 3 f (spD C R_law_small_order) := by
  refine defD_ok F sc_law_small_order hb (fun ds bs r ds' h => ?_) (fun cdv A outer s H E ds bs r ds' hr h => ?_)
  · obtain ⟨d, rfl, rfl, _⟩ := h
    rfl
  · obtain ⟨d, rfl, rfl, hd, rfl, rfl⟩ := h
    have rr := roll_range d (t := 14) (by omega)
    have hl : (rollV d 14).toNat < orders.length := by show _ < 14; omega
    refine q_ret (e_callD (R := R_law_pick) 0 D hr (a_cons (e_lst (a_cons e_int (a_cons e_int (a_cons e_int (a_cons e_int (a_cons e_int (a_cons e_int (a_cons e_int (a_cons e_int (a_cons e_int (a_cons e_int (a_cons e_int (a_cons e_int (a_cons e_int (a_cons e_int a_nil)))))))))))))) (by show 14 ≤ sizeLine; decide)) a_nil) ⟨d, true, iB orders, rfl, rfl, hd, by decide, by decide, ?_, rfl⟩) ⟨rfl, rfl⟩
    show (orders.map B.int)[(rollV d 14).toNat]? = some (.int (orders.getD (rollV d 14).toNat 0))
    rw [List.getElem?_map, List.getD_eq_getElem?_getD, List.getElem?_eq_getElem hl]
    rfl
theorem ok_law_turn_drawn {f : Addr} {fd : FuncData} (F : Fun K "_law_turn_drawn" "_law_turn_drawn" st_law_turn_drawn f fd) (T : Bi mg) (D1 : Dn P w K mg base "_law_cyclotomic" 2 (spR C R_law_cyclotomic)) (D2 : Dn P w K mg base "_law_roll" 1 (spD C R_law_roll)) (hb : Binds K fd ["_law_dice_here", "_law_order", "_law_most"] []) : FnR P w K mg base CX0 3 f (spD C R_law_turn_drawn) := by
  refine defD_ok F sc_law_turn_drawn hb (fun ds bs r ds' h => ?_) (fun cdv A outer s H E ds bs r ds' hr h => ?_)
  · obtain ⟨d, n, most, poly, rfl, rfl, _⟩ := h
    rfl
  · obtain ⟨d, n, most, poly, rfl, rfl, hp, l1, l2, hd, m1, m2, rfl, rfl⟩ := h
    have lp : (iB poly).length = poly.length := List.length_map ..
    have es : ((poly.length : Int) - 1) = ((poly.length - 1 : Nat) : Int) := by omega
    refine q_parVO (x := .int ((poly.length - 1 : Nat) : Int)) (o := .lst (iB [])) 3 4 (e_cv (e_sub (e_len true T.len (e_call (R := R_law_cyclotomic) D1 hr (a_cons (e_var 1) a_nil) hp)) e_int) (by rw [lp, es])) (f_lst a_nil (by decide)) rfl sc_law_turn_drawn.nd ?_
    refine q_forI (fun (s : Dice × List Int) => [.ow (.lst s.1.bs), .va (.int n), .va (.int most), .va (.int ((poly.length - 1 : Nat) : Int)), .ow (.lst (iB s.2)), .un]) (List.range (poly.length - 1)) (fun (i : Nat) => B.int (0 + (i : Int))) (tdS most) (d, []) (fun i s => s.1.okN (200 - 2 * i) ∧ s.2.length = i) PassesOwn.never rfl
      (v_rng1 T.range (a_cons (e_var 3) a_nil) (by omega)) (Weak.refl _) ⟨hd, rfl⟩ (fun i u z hz ⟨hu, hl⟩ => ?_) (fun _ => ?_)
    · have hi : i < poly.length - 1 := by
        have := (List.getElem?_eq_some_iff.mp hz).1
        rwa [List.length_range] at this
      have o1 : (rollD u.1 2).okN (200 - 2 * i - 1) := (hu.less (m := 200 - 2 * i - 1 + 1) (by omega)).roll (by omega)
      have o2 : (rollD (rollD u.1 2) (2 * most + 1)).okN (200 - 2 * (i + 1)) := (o1.less (m := 200 - 2 * (i + 1) + 1) (by omega)).roll (by omega)
      by_cases h0 : rollV u.1 2 = 0
      · have eg : tdS most u z = (rollD (rollD u.1 2) (2 * most + 1), u.2 ++ [rollV (rollD u.1 2) (2 * most + 1) - most]) := if_pos h0
        rw [eg]
        refine ⟨⟨o2, by show List.length (u.2 ++ [_]) = _; rw [List.length_append, hl]; rfl⟩, _, _, g_name 5 sc_law_turn_drawn.nd, ?_⟩
        refine q_app (xs := iB u.2) (ys := iB u.2) (x := .int (rollV (rollD u.1 2) (2 * most + 1) - most)) 4 (e_if (k := true) (c_cv (c_eq (e_callD (R := R_law_roll) 0 D2 (hr.mono (by omega)) (a_cons e_int a_nil) ⟨u.1, 2, rfl, rfl, hu.ok, by omega, by omega, rfl, rfl⟩) e_int) (decide_eq_true h0)) (fun _ => e_sub (e_callD (R := R_law_roll) 0 D2 (hr.mono (by omega)) (a_cons (e_add (e_mul e_int (e_var 2) (cmul_small (by omega) (by omega))) e_int) a_nil) ⟨rollD u.1 2, 2 * most + 1, rfl, rfl, o1.ok, by omega, by omega, rfl, rfl⟩) (e_var 2)) (fun z => nomatch z)) (by rw [List.length_map, hl, sizeLine_eq]; omega) ?_
        rw [show iB u.2 ++ [.int (rollV (rollD u.1 2) (2 * most + 1) - most)] = iB (u.2 ++ [rollV (rollD u.1 2) (2 * most + 1) - most]) from by rw [iB, iB, List.map_append]; rfl]
        exact q_nil (loop_nx (by repeat (first | exact Weak.nil | apply Weak.eq | apply Weak.un)) rfl)
      · have eg : tdS most u z = (rollD u.1 2, u.2 ++ [0]) := if_neg h0
        rw [eg]
        refine ⟨⟨o1.less (by omega), by show List.length (u.2 ++ [_]) = _; rw [List.length_append, hl]; rfl⟩, _, _, g_name 5 sc_law_turn_drawn.nd, ?_⟩
        refine q_app (xs := iB u.2) (ys := iB u.2) (x := .int 0) 4 (e_if (k := false) (c_cv (c_eq (e_callD (R := R_law_roll) 0 D2 (hr.mono (by omega)) (a_cons e_int a_nil) ⟨u.1, 2, rfl, rfl, hu.ok, by omega, by omega, rfl, rfl⟩) e_int) (decide_eq_false h0)) (fun z => nomatch z) (fun _ => e_int)) (by rw [List.length_map, hl, sizeLine_eq]; omega) ?_
        rw [show iB u.2 ++ [.int 0] = iB (u.2 ++ [0]) from by rw [iB, iB, List.map_append]; rfl]
        exact q_nil (loop_nx (by repeat (first | exact Weak.nil | apply Weak.eq | apply Weak.un)) rfl)
    · refine q_frz (xs := iB (tdM d most (poly.length - 1)).2) 4 (k := ?_)
      exact q_ret (e_tuple true T.tuple (e_var 4)) ⟨rfl, rfl⟩
end
end Q
end

/-! text W20 -/
section
set_option Elab.async false
set_option linter.all false
set_option maxRecDepth 100000
/-! turn_other; the law's are_ideal_rows; the dice made -/
namespace Q
open PySem PySem.Spec PyProof.Rows L2
def nzRow : List Int → Bool
  | [] => false
  | x :: xs => !decide (xs.foldl max x = 0) || !decide (xs.foldl min x = 0)
def R_law_turn_other (ds bs : List B) (r : B) (ds' : List B) : Prop := ∃ (d : Dice) (n most : Int) (f : List Int) (d' : Dice), ds = d.bs ∧ bs = [.int n, .int most] ∧ R_law_turn_drawn d.bs [.int n, .int most] (it f) d'.bs ∧ f ≠ [] ∧ ((nzRow f = true ∧ r = it f) ∨ (nzRow f = false ∧ R_law_turn_cut [.int n, il [2, 1]] r)) ∧ ds' = d'.bs
abbrev st_law_turn_other : Stmt := top 84
theorem sc_law_turn_other : FnScope ["_law_dice_here", "_law_order", "_law_most", "_law_found"] ["_law_dice_here", "_law_order", "_law_most"] (defScope st_law_turn_other) := ⟨rfl, rfl, rfl, by decide +kernel, rfl, by decide +kernel, by decide +kernel⟩
theorem room64 {k : Nat} {A : Around} (h : Room k A) : A.units + 64 < cLine := by have := h.un; omega
/-! ### the dice made -/
def diceCell (ns : List Int) (spot : Int) : Int := if spot < ns.length then ns.getD spot.toNat 0 else 67 * spot + 19
def absI (i : Int) : Int := if i < 0 then -i else i
def diceOf (ns : List Int) (spot : Int) : Dice :=
  ⟨(if absI (diceCell ns spot) - 10 ^ 17 > 0 then absI (diceCell ns spot) - 10 ^ 17 else 0).fmod (10 ^ 60 * 10 ^ 58), (absI (diceCell ns spot)).fmod 1152921504606846869 * 53 + 863 * spot + 43 * (if diceCell ns spot < 0 then 1 else 0) + 3, 0⟩
def R_law_dice (bs r : List B) : Prop := ∃ ns spot, bs = [.scr ns, .int spot] ∧ 0 ≤ spot ∧ spot ≤ 10 ∧ r = (diceOf ns spot).bs
abbrev st_law_dice : Stmt := top 67
theorem sc_law_dice : FnScope ["_law_script", "_law_spot", "_law_cell", "_law_left"] ["_law_script", "_law_spot"] (defScope st_law_dice) := ⟨rfl, rfl, rfl, by decide +kernel, rfl, by decide +kernel, by decide +kernel⟩
section
variable {X : Cx} {C : Ct} {e a b : Expr} {ρ ρ1 ρ2 : List Sl} {pos : Pos}
/-- an item of the script -/
theorem e_ixS {ns : List Int} {i : Int} {z : Int} (hK : X.K = C.K) (ha : EB C X a ρ (.scr ns) ρ1) (hb : EB C X b ρ1 (.int i) ρ2) (h : atI ns i = some z) (hs : PlainIx b := by intro _ _; rfl) : EB C X (.Subscript a b pos) ρ (.int z) ρ2 :=
  e_ixG ix_list ha hb (fun H0 H v u Q d1 d2 ex k => by
    cases d1 with
    | scr g =>
      cases d2
      obtain ⟨w, w1, w2⟩ := den_atI (C := C) (DenAll.of_ints (C := C) (H := H0) ns) (atI_iB h)
      cases den_int w2
      exact ⟨_, _, i, _, rfl, rfl, by rw [hK]; exact Evl.ex_l ex g, w1, k _ H0 H (Stp.refl ex) (.int z)⟩) hs
end
section
variable {P : Program} {w : World} {K : PySem.W.Frag} {mg : Str → Option Value} {base : Heap} {C : Ct}
theorem ok_law_turn_other {f : Addr} {fd : FuncData} (F : Fun K "_law_turn_other" "_law_turn_other" st_law_turn_other f fd) (T : Bi mg) (D1 : Dn P w K mg base "_law_turn_drawn" 3 (spD C R_law_turn_drawn)) (D2 : Dn P w K mg base "_law_turn_cut" 3 (spR C R_law_turn_cut)) (hb : Binds K fd ["_law_dice_here", "_law_order", "_law_most"] []) : FnR P w K mg base CX0 4 f (spD C R_law_turn_other) := by
  refine defD_ok F sc_law_turn_other hb (fun ds bs r ds' h => ?_) (fun cdv A outer s H E ds bs r ds' hr h => ?_)
  · obtain ⟨d, n, most, f, d', rfl, rfl, _⟩ := h
    rfl
  · obtain ⟨d, n, most, f, d', rfl, rfl, h1, h2, h3, rfl⟩ := h
    refine q_set (x := it f) 3 (e_callD (R := R_law_turn_drawn) 0 D1 hr (a_cons (e_var 1) (a_cons (e_var 2) a_nil)) h1) sc_law_turn_other.nd ?_
    cases f with
    | nil => exact absurd rfl h2
    | cons x xs =>
      refine q_ret (ρ1 := [.ow (.lst d'.bs), .va (.int n), .va (.int most), .va (it (x :: xs))]) (e_if (k := nzRow (x :: xs)) (c_w (w_or (c_ne (e_maxT rfl (room64 hr) T.max (e_var 3)) e_int) (fun _ => w_or1 (c_ne (e_minT rfl (room64 hr) T.min (e_var 3)) e_int)) (fun _ => rfl))) (fun hk => ?_) (fun hk => ?_)) ⟨rfl, rfl⟩
      · rcases h3 with ⟨_, rfl⟩ | ⟨hn, _⟩
        · exact e_var 3
        · rw [hk] at hn
          cases hn
      · rcases h3 with ⟨hn, _⟩ | ⟨_, h3⟩
        · rw [hk] at hn
          cases hn
        · exact e_call (R := R_law_turn_cut) D2 hr (a_cons (e_var 1) (a_cons (e_lst (a_cons e_int (a_cons e_int a_nil)) (by show 2 ≤ sizeLine; decide)) a_nil)) h3
theorem ok_law_dice {f : Addr} {fd : FuncData} (hK : K = C.K) (F : Fun K "_law_dice" "_law_dice" st_law_dice f fd) (T : Bi mg) (hb : Binds K fd ["_law_script", "_law_spot"] []) : FnR P w K mg base CX0 1 f (spF C R_law_dice) := by
  refine defF_ok F sc_law_dice hb (fun bs r h => ?_) (fun cdv A outer s H E bs r hr h => ?_)
  · obtain ⟨ns, spot, rfl, _⟩ := h
    rfl
  · obtain ⟨ns, spot, rfl, h0, h1, rfl⟩ := h
    refine q_set (ρ1 := [.va (.scr ns), .va (.int spot), .un, .un]) (x := .int (diceCell ns spot)) 2 (e_if (k := decide (spot < (ns.length : Int))) (c_lt (e_var 1) (e_lenScr hK T.len (e_var 0))) (fun hk => ?_) (fun hk => ?_)) sc_law_dice.nd ?_
    · have hl := of_decide_eq_true hk
      rw [show diceCell ns spot = ns.getD spot.toNat 0 from if_pos hl]
      exact e_intI T.int (e_ixS hK (e_var 0) (e_var 1) (by
        have e : spot = (spot.toNat : Int) := by omega
        rw [e]
        exact atI_D (by omega)))
    · have hl := of_decide_eq_false hk
      rw [show diceCell ns spot = 67 * spot + 19 from if_neg hl]
      exact e_add (e_mul e_int (e_var 1) (cmul_small (by omega) (by omega))) e_int
    · have hb60 : CMulX (10 ^ 60) (10 ^ 58) := by show _ ≤ _; decide +kernel
      have m1 : 0 ≤ (absI (diceCell ns spot)).fmod 1152921504606846869 ∧ (absI (diceCell ns spot)).fmod 1152921504606846869 < 1152921504606846869 := ⟨Int.fmod_nonneg_of_pos _ (by omega), Int.fmod_lt_of_pos _ (by omega)⟩
      refine q_set (x := .int (diceOf ns spot).a) 3 (e_mod (e_max2 rfl T.max e_int (e_sub (e_abs T.abs (e_var 2)) (e_pow e_int e_int ⟨by decide, by decide, by decide⟩))) (e_mul (e_pow e_int e_int ⟨by decide, by decide, by decide⟩) (e_pow e_int e_int ⟨by decide, by decide, by decide⟩) hb60) (by decide)) sc_law_dice.nd ?_
      refine q_retF (f_lst (a_cons (e_var 3) (a_cons (e_add (e_add (e_add (e_mul (e_mod (e_abs T.abs (e_var 2)) e_int (by decide)) e_int (cmul_small (by have := m1; unfold absI at this; omega) (by omega))) (e_mul e_int (e_var 1) (cmul_small (by omega) (by omega)))) (e_mul e_int (e_intB T.int (e_lt (e_var 2) e_int)) (cmul_small (by omega) (by split <;> omega)))) e_int) (a_cons e_int a_nil))) (by show 3 ≤ sizeLine; decide)) ?_
      show [B.int _, B.int _, B.int _] = [B.int _, B.int _, B.int _]
      simp only [diceOf, absI, decide_eq_true_eq]
end
end Q
end

/-! text W21 -/
section
set_option Elab.async false
set_option linter.all false
set_option maxRecDepth 100000
/-! the law's are_ideal_rows -/
namespace Q
open PySem PySem.Spec PyProof.Rows L2
def ltoldRow (size : Nat) : B → Bool
  | .tup es => decide (es.length = size) && es.all isInt
  | _ => false
def ltoldM (size : Nat) : B → Bool
  | .tup vs => decide (vs.length = size) && vs.all (ltoldRow size)
  | _ => false
def R_law_are_ideal_rows (bs : List B) (r : B) : Prop := ∃ n poly v, bs = [.int n, v] ∧ R_law_cyclotomic [.int n] (il poly) ∧ 1 ≤ poly.length ∧ poly.length ≤ 1000 ∧ knownAll v ∧
  ((ltoldM (poly.length - 1) v = false ∧ r = .bl false) ∨ ∃ vs : List (List Int), v = rB vs ∧ ltoldM (poly.length - 1) v = true ∧ (∀ row ∈ vs, row.length = vs.length) ∧ ((alM vs = false ∧ r = .bl false) ∨
    (alM vs = true ∧ ∃ (p : B) (z : List Int → List Int) (b : List Int → Bool), R_law_turn_power [.int n, .int 1] p ∧ (∀ row ∈ vs, R_law_turn_times [.int n, it row, p] (it (z row)) ∧ R_law_is_in_rows [rB vs, it (z row)] (.bl (b (z row)))) ∧ r = .bl ((vs.map z).all b))))
abbrev st_law_are_ideal_rows : Stmt := top 86
abbrev NL : List Str := ["_law_order", "_law_value", "_law_size", "_law_row", "_law_at", "_law_led", "_law_entry", "_law_ahead"]
theorem sc_law_are_ideal_rows : FnScope NL ["_law_order", "_law_value"] (defScope st_law_are_ideal_rows) := ⟨rfl, rfl, rfl, by decide +kernel, rfl, by decide +kernel, by decide +kernel⟩
theorem isInt_key {x : B} {t : String} (ht : tyB x = some t) : ∃ k1 k2, kitB t "int" = some k1 ∧ kitB t "bool" = some k2 ∧ (!k1 || k2) = !isInt x := by
  cases x <;> first | (cases ht; done) | (cases Option.some.inj ht; first | exact ⟨true, false, by decide +kernel, by decide +kernel, rfl⟩ | exact ⟨true, true, by decide +kernel, by decide +kernel, rfl⟩ | exact ⟨false, false, by decide +kernel, by decide +kernel, rfl⟩)
theorem ones_cmp {α : Type} (l : List α) : Cmp (.lst (l.map fun _ => B.int 1)) := (cmpn_lst (n := 1) fun x hx => by
  obtain ⟨i, _, rfl⟩ := List.mem_map.mp hx
  exact cmpn_int 1).cmp (by omega)
theorem nil_cmp : Cmp (.lst []) := (cmpn_lst (n := 1) fun x hx => by cases hx).cmp (by omega)
theorem filter_empty {α : Type} (p : α → Bool) (l : List α) (g : α → B) : (!((l.filter fun a => !p a).map g).isEmpty) = !l.all p := by
  induction l with
  | nil => rfl
  | cons a r ih =>
    cases h : p a with
    | true =>
      rw [List.filter_cons_of_neg (by simp [h]), List.all_cons, h, Bool.true_and]
      exact ih
    | false =>
      rw [List.filter_cons_of_pos (by simp [h]), List.all_cons, h]
      rfl
section
variable {P : Program} {w : World} {K : PySem.W.Frag} {mg : Str → Option Value} {base : Heap} {C : Ct}
theorem ok_law_are_ideal_rows {f : Addr} {fd : FuncData} (F : Fun K "_law_are_ideal_rows" "_law_are_ideal_rows" st_law_are_ideal_rows f fd) (T : Bi mg) (D1 : Dn P w K mg base "_law_cyclotomic" 2 (spR C R_law_cyclotomic)) (D2 : Dn P w K mg base "_law_turn_times" 4 (spR C R_law_turn_times)) (D3 : Dn P w K mg base "_law_turn_power" 4 (spR C R_law_turn_power))
    (D4 : Dn P w K mg base "_law_is_in_rows" 2 (spR C R_law_is_in_rows)) (hb : Binds K fd ["_law_order", "_law_value"] []) : FnR P w K mg base CX0 5 f (spR C R_law_are_ideal_rows) := by
  refine def_ok F sc_law_are_ideal_rows hb (fun bs r h => ?_) (fun cdv A outer s H E bs r hr h => ?_)
  · obtain ⟨n, poly, v, rfl, _⟩ := h
    rfl
  · obtain ⟨n, poly, v, rfl, hp, l1, l2, hk, hh⟩ := h
    have lp : (iB poly).length = poly.length := List.length_map ..
    have es : ((poly.length : Int) - 1) = ((poly.length - 1 : Nat) : Int) := by omega
    refine q_set (x := .int ((poly.length - 1 : Nat) : Int)) 2 (e_cv (e_sub (e_len true T.len (e_call (R := R_law_cyclotomic) D1 (hr.mono (by omega)) (a_cons (e_var 0) a_nil) hp)) e_int) (by rw [lp, es])) sc_law_are_ideal_rows.nd ?_
    -- the size
    obtain ⟨size, hsz⟩ : ∃ m, m = poly.length - 1 := ⟨_, rfl⟩
    rw [← hsz] at hh ⊢
    by_cases hv : ∃ vs, v = .tup vs
    · obtain ⟨vs, rfl⟩ := hv
      have hk' : ∀ v ∈ vs, knownRow v := hk
      refine q_if (k := false || !decide ((vs.length : Int) = (size : Int))) (c_w (w_or (c_not (k := true) (c_val (e_isi T.isi (e_var 1) (e_ty "tuple" T.tuple (by decide +kernel)) (t := "tuple") rfl (by decide +kernel)))) (fun _ => w_or1 (c_ne (e_len false T.len (e_var 1)) (e_var 2))) (fun z => nomatch z))) (fun h => ?_) (fun h => ?_)
      · have h1 : ¬ vs.length = size := by
          intro z
          rw [Bool.false_or, z] at h
          simp at h
        have hf : ltoldM size (.tup vs) = false := by
          show (decide (vs.length = size) && _) = false
          rw [decide_eq_false h1, Bool.false_and]
        rcases hh with ⟨_, rfl⟩ | ⟨_, _, ht, _⟩
        · exact q_ret e_bl rfl
        · rw [hf] at ht
          cases ht
      · have h1 : vs.length = size := by
          rw [Bool.false_or] at h
          have h2 : decide ((vs.length : Int) = (size : Int)) = true := by simpa using h
          have := of_decide_eq_true h2
          omega
        have et : ltoldM size (.tup vs) = vs.all (ltoldRow size) := by
          show (decide (vs.length = size) && _) = _
          rw [decide_eq_true h1, Bool.true_and]
        rw [et] at hh
        refine q_nil (q_for (xs := vs) (W := fun i ρ => (∃ s3, ρ = [.va (.int n), .va (.tup vs), .va (.int (size : Int)), s3, .un, .un, .un, .un] ∧ s3 = .un) ∧ (vs.drop i).all (ltoldRow size) = vs.all (ltoldRow size)) PassesOwn.never rfl (v_tup (e_var 1)) ⟨_, Weak.refl _, ⟨_, rfl, rfl⟩, rfl⟩ (fun i x ρ' hx ⟨er, hm⟩ => ?_) (fun ρ' ⟨er, hm⟩ => ?_))
        · obtain ⟨s3, er, e3⟩ := er
          subst e3
          subst er
          rw [drop_cons hx, List.all_cons] at hm
          refine ⟨_, _, g_name 3 sc_law_are_ideal_rows.nd, ?_⟩
          have hkx := hk' x (List.mem_of_getElem? hx)
          have fin : ltoldRow size x = false → r = .bl false := fun hf => by
            rw [hf, Bool.false_and] at hm
            rcases hh with ⟨_, rfl⟩ | ⟨_, _, ht, _⟩
            · rfl
            · rw [← hm] at ht
              cases ht
          by_cases hv : ∃ es, x = .tup es
          · obtain ⟨es', rfl⟩ := hv
            have hke : ∀ e ∈ es', known e := hkx
            refine q_if (k := false || !decide ((es'.length : Int) = (size : Int))) (c_w (w_or (c_not (k := true) (c_val (e_isi T.isi (e_var 3) (e_ty "tuple" T.tuple (by decide +kernel)) (t := "tuple") rfl (by decide +kernel)))) (fun _ => w_or1 (c_ne (e_len false T.len (e_var 3)) (e_var 2))) (fun z => nomatch z))) (fun h => ?_) (fun h => ?_)
            · have h5 : ¬ es'.length = size := by
                intro z
                rw [Bool.false_or, z] at h
                simp at h
              refine q_ret e_bl ?_
              rw [fin (by show (decide (es'.length = size) && _) = false; rw [decide_eq_false h5, Bool.false_and])]
              rfl
            · have h5 : es'.length = size := by
                rw [Bool.false_or] at h
                have h2 : decide ((es'.length : Int) = (size : Int)) = true := by simpa using h
                have := of_decide_eq_true h2
                omega
              have e5 : ltoldRow size (.tup es') = es'.all isInt := by
                show (decide (es'.length = size) && _) = _
                rw [decide_eq_true h5, Bool.true_and]
              refine q_nil (q_if (k := !es'.all isInt) (c_cv (c_neD (room64 hr) (e_of (f_lc (own := [("_law_entry", 6)]) es' id (fun a => [.va (.int n), .va (.tup vs), .va (.int (size : Int)), .va (.tup es'), .un, .un, .va a, .un]) (fun a => !isInt a) (fun _ => .int 1) rfl sc_law_are_ideal_rows.nd
                (v_cv (v_tup (e_var 3)) (List.map_id es').symm) (blkOk_by (N := NL) (sc := defScope st_law_are_ideal_rows) (by decide +kernel)) (blk_of _ _) (fun _ _ _ _ _ z hz => g_name 6 sc_law_are_ideal_rows.nd)
                (fun _ _ _ _ _ a ha => by
                  obtain ⟨t, ht⟩ := hke a ha
                  obtain ⟨k1, k2, q1, q2, q3⟩ := isInt_key ht
                  exact t_one (c_cv (c_w (w_or (c_not (c_val (e_isi T.isi (e_var 6) (e_ty "int" T.int (by decide +kernel)) ht q1))) (fun _ => w_or1 (c_val (e_isi T.isi (e_var 6) (e_ty "bool" T.bool (by decide +kernel)) ht q2))) (fun _ => rfl))) q3)) (fun _ _ _ _ _ a ha _ => e_int) (by rw [sizeLine_eq]; omega))) (e_lst a_nil (by decide)) (ones_cmp _) nil_cmp) (by rw [eqv_nil]; exact filter_empty isInt es' _)) (fun h6 => ?_) (fun h6 => ?_))
              · refine q_ret e_bl ?_
                rw [fin (by rw [e5]; simpa using h6)]
                rfl
              · have h7 : ltoldRow size (.tup es') = true := by rw [e5]; simpa using h6
                rw [h7, Bool.true_and] at hm
                exact q_nil (q_nil (loop_nx (by repeat (first | exact Weak.nil | apply Weak.un | apply Weak.eq)) ⟨⟨_, rfl, rfl⟩, hm⟩))
          · have h2 : ltoldRow size x = false := by cases x <;> first | rfl | exact absurd ⟨_, rfl⟩ hv
            have hkx' : known x := by cases x <;> first | exact hkx | exact absurd ⟨_, rfl⟩ hv
            obtain ⟨t, ht⟩ := hkx'
            have hkt : kitB t "tuple" = some false := by cases x <;> first | (cases ht; done) | (cases Option.some.inj ht; first | decide +kernel | exact absurd ⟨_, rfl⟩ hv)
            refine q_if (k := true || true) (c_w (w_or (l := true) (c_not (k := false) (c_val (e_isi T.isi (e_var 3) (e_ty "tuple" T.tuple (by decide +kernel)) ht hkt))) (fun z => nomatch z) (fun _ => rfl))) (fun h => ?_) (fun h => nomatch h)
            refine q_ret e_bl ?_
            rw [fin h2]
            rfl
        · obtain ⟨s3, er, e3⟩ := er
          subst e3
          subst er
          rw [List.drop_length] at hm
          have hall : vs.all (ltoldRow size) = true := hm.symm
          rcases hh with ⟨hf, _⟩ | ⟨rows, ev, _, hlen, hh⟩
          · rw [hall] at hf
            cases hf
          · cases ev
            have lR : (rows.map it).length = rows.length := List.length_map ..
            rw [lR] at h1
            refine q_for (xs := rows.zipIdx.map fun p => B.tup [.int (p.2 : Int), it p.1]) (W := fun i ρ => ρ = [.va (.int n), .va (rB rows), .va (.int (size : Int)), .un, .un, .un, .un, .un] ∧ (rows.zipIdx.drop i).all (alOk rows) = alM rows) PassesOwn.never rfl
              (v_cv (v_enum (k := false) T.enum (e_var 1)) (enumB_map it rows)) ⟨_, Weak.refl _, rfl, rfl⟩ (fun i x ρ' hx ⟨er, hm⟩ => ?_) (fun ρ' ⟨er, hm⟩ => ?_)
            · subst er
              rw [List.getElem?_map] at hx
              cases hz : rows.zipIdx[i]? with
              | none => rw [hz] at hx; cases hx
              | some p =>
                rw [hz] at hx
                cases hx
                obtain ⟨row, pl⟩ := p
                rw [drop_cons hz, List.all_cons] at hm
                obtain ⟨q1, q2, _⟩ := mem_zipIdx (List.mem_of_getElem? hz)
                have q1 : pl < rows.length := q1
                have q2 : row.length = rows.length := hlen row q2
                have lr : (iB row).length = row.length := List.length_map ..
                have a1 : atI (iB row) (pl : Int) = some (.int (row.getD pl 0)) := atI_iB (atI_D (by omega))
                have c1 : cut (iB row) none (some (pl : Int)) = (row.take pl).map B.int := by rw [cut_take _ _ (by rw [lr]; omega)]; exact List.map_take.symm
                have c2 : cut (rows.map it) none (some (pl : Int)) = (rows.take pl).map it := by rw [cut_take _ _ (by rw [lR]; omega)]; exact List.map_take.symm
                have fin : alOk rows (row, pl) = false → r = .bl false := fun hf => by
                  rw [hf, Bool.false_and] at hm
                  rcases hh with ⟨_, rfl⟩ | ⟨ha, _⟩
                  · rfl
                  · rw [← hm] at ha
                    cases ha
                refine ⟨_, _, g_pair 4 3 rfl sc_law_are_ideal_rows.nd, ?_⟩
                refine q_if (k := decide (row.getD pl 0 < 1) || !(row.take pl).all fun e => decide (e = 0)) (c_w (w_or (c_lt (e_ixT (xs := iB row) (e_var 3) (e_var 4) a1) e_int) (fun _ => w_or1 (c_cv (c_neD (room64 hr) (e_of (f_lc (own := [("_law_entry", 6)]) (row.take pl) B.int (fun a => [.va (.int n), .va (rB rows), .va (.int (size : Int)), .va (it row), .va (.int (pl : Int)), .un, .va (.int a), .un]) (fun a => !decide (a = 0)) (fun _ => .int 1) rfl sc_law_are_ideal_rows.nd
                  (v_tup (e_cb (e_slT (xs := iB row) (i := none) (j := some (pl : Int)) (e_var 3) i_none (i_some (e_var 4))) (by rw [c1]))) (blkOk_by (N := NL) (sc := defScope st_law_are_ideal_rows) (by decide +kernel)) (blk_of _ _) (fun _ _ _ _ _ z hz => g_name 6 sc_law_are_ideal_rows.nd)
                  (fun _ _ _ _ _ a ha => t_one (c_ne (e_var 6) e_int)) (fun _ _ _ _ _ a ha _ => e_int) (by rw [List.length_take, sizeLine_eq]; omega))) (e_lst a_nil (by decide)) (ones_cmp _) nil_cmp) (by rw [eqv_nil]; exact filter_empty (fun e : Int => decide (e = 0)) _ _))) (fun _ => rfl))) (fun h => ?_) (fun h => ?_)
                · refine q_ret e_bl ?_
                  rw [fin ?_]
                  · rfl
                  · unfold alOk
                    rcases Bool.or_eq_true_iff.mp h with h1 | h1
                    · show (_ && !decide (row.getD pl 0 < 1) && _) = false
                      rw [h1, Bool.not_true, Bool.and_false, Bool.false_and]
                    · have : (row.take pl).any (· != 0) = true := by
                        have h2 : ((row.take pl).all fun e => decide (e = 0)) = false := by simpa using h1
                        rw [List.all_eq_false] at h2
                        obtain ⟨e, he, hne⟩ := h2
                        rw [List.any_eq_true]
                        exact ⟨e, he, by simpa using hne⟩
                      show (!(row.take pl).any (· != 0) && _ && _) = false
                      rw [this]
                      rfl
                · refine q_nil (q_if (k := !(rows.take pl).all fun a => decide (0 ≤ a.getD pl 0) && decide (a.getD pl 0 < row.getD pl 0)) (c_cv (c_neD (room64 hr) (e_of (f_lc (own := [("_law_ahead", 7)]) (rows.take pl) it (fun a => [.va (.int n), .va (rB rows), .va (.int (size : Int)), .va (it row), .va (.int (pl : Int)), .un, .un, .va (it a)]) (fun a => !(decide (0 ≤ a.getD pl 0) && decide (a.getD pl 0 < row.getD pl 0))) (fun _ => .int 1) rfl sc_law_are_ideal_rows.nd
                    (v_tup (e_cb (e_slT (xs := rows.map it) (i := none) (j := some (pl : Int)) (e_var 1) i_none (i_some (e_var 4))) (by rw [c2]))) (blkOk_by (N := NL) (sc := defScope st_law_are_ideal_rows) (by decide +kernel)) (blk_of _ _) (fun _ _ _ _ _ z hz => g_name 7 sc_law_are_ideal_rows.nd)
                    (fun _ _ _ _ _ a ha => t_one (c_not (c_chain (g := fun i j => decide (i ≤ j)) (g' := fun i j => decide (i < j)) op_le op_lt e_int (e_ixT (xs := iB a) (e_var 7) (e_var 4) (atI_iB (atI_D (by rw [hlen a (List.mem_of_mem_take ha)]; exact q1)))) (e_ixT (xs := iB row) (e_var 3) (e_var 4) a1)))) (fun _ _ _ _ _ a ha _ => e_int) (by rw [List.length_take, sizeLine_eq]; omega))) (e_lst a_nil (by decide)) (ones_cmp _) nil_cmp) (by rw [eqv_nil]; exact filter_empty (fun a : List Int => decide (0 ≤ a.getD pl 0) && decide (a.getD pl 0 < row.getD pl 0)) _ _)) (fun h2 => ?_) (fun h2 => ?_))
                  · refine q_ret e_bl ?_
                    rw [fin ?_]
                    · rfl
                    · have h3 : ((rows.take pl).all fun a => decide (0 ≤ a.getD pl 0) && decide (a.getD pl 0 < row.getD pl 0)) = false := by simpa using h2
                      unfold alOk
                      show (_ && List.all _ _) = false
                      rw [h3, Bool.and_false]
                  · have : alOk rows (row, pl) = true := by
                      have h3 : ((rows.take pl).all fun a => decide (0 ≤ a.getD pl 0) && decide (a.getD pl 0 < row.getD pl 0)) = true := by simpa using h2
                      rw [Bool.or_eq_false_iff] at h
                      have h4 : (row.take pl).any (· != 0) = false := by
                        have h5 : ((row.take pl).all fun e => decide (e = 0)) = true := by simpa using h.2
                        rw [List.any_eq_false]
                        intro e he
                        have := List.all_eq_true.mp h5 e he
                        simpa using this
                      unfold alOk
                      show (_ && List.all _ _) = true
                      rw [h3, h4, h.1]
                      rfl
                    rw [this, Bool.true_and] at hm
                    exact q_nil (q_nil (loop_nx (by repeat (first | exact Weak.nil | apply Weak.un | apply Weak.eq)) ⟨rfl, hm⟩))
            · subst er
              rw [List.length_map, List.drop_length] at hm
              have ha : alM rows = true := hm.symm
              rcases hh with ⟨hf, _⟩ | ⟨_, p, z, b, hpw, hz, rfl⟩
              · rw [ha] at hf
                cases hf
              · refine q_lcA (own := [("_law_row", 3)]) 5 rows it (fun a => [.va (.int n), .va (rB rows), .va (.int (size : Int)), .va (it a), .un, .un, .un, .un]) (fun a => it (z a)) rfl sc_law_are_ideal_rows.nd
                  (v_tup (e_var 1)) (blkOk_by (N := NL) (sc := defScope st_law_are_ideal_rows) (by decide +kernel)) (blk_of _ _) (fun _ _ _ _ _ z hz => g_name 3 sc_law_are_ideal_rows.nd)
                  (fun _ _ _ _ _ a ha => e_call (R := R_law_turn_times) D2 hr (a_cons (e_var 0) (a_cons (e_var 3) (a_cons (e_call (R := R_law_turn_power) D3 hr (a_cons (e_var 0) (a_cons e_int a_nil)) hpw) a_nil))) (hz a ha).1) (by rw [sizeLine_eq]; omega) ?_
                refine q_frz (xs := rows.map fun a => it (z a)) 5 (k := ?_)
                have em : (rows.map fun a => it (z a)) = (rows.map z).map it := by rw [List.map_map]; rfl
                rw [em]
                have hb2 : ∀ a ∈ rows.map z, R_law_is_in_rows [rB rows, it a] (.bl (b a)) := fun a ha => by
                  obtain ⟨c, hc, rfl⟩ := List.mem_map.mp ha
                  exact (hz c hc).2
                refine q_ret (e_cb (e_eqD (room64 hr) (e_of (f_lc (own := [("_law_row", 3)]) (rows.map z) it (fun a => [.va (.int n), .va (rB rows), .va (.int (size : Int)), .va (it a), .un, .va (.lst ((rows.map z).map it)), .un, .un]) (fun a => !b a) (fun a => it a) rfl sc_law_are_ideal_rows.nd
                  (v_list (e_var 5)) (blkOk_by (N := NL) (sc := defScope st_law_are_ideal_rows) (by decide +kernel)) (blk_of _ _) (fun _ _ _ _ _ z hz => g_name 3 sc_law_are_ideal_rows.nd)
                  (fun _ _ _ _ _ a ha => t_one (c_not (c_val (e_call (R := R_law_is_in_rows) D4 (hr.mono (by omega)) (a_cons (e_var 1) (a_cons (e_var 3) a_nil)) (hb2 a ha))))) (fun _ _ _ _ _ a ha _ => e_var 3) (by rw [List.length_map, sizeLine_eq]; omega))) (e_lst a_nil (by decide)) ((cmpn_lst (n := 2) fun x hx => by
                    obtain ⟨i, _, rfl⟩ := List.mem_map.mp hx
                    exact cmpn_it i).cmp (by omega)) nil_cmp) (x := .bl _) (y := .bl ((rows.map z).all b)) ?_) rfl
                rw [eqv_nil]
                have := filter_empty b (rows.map z) it
                congr 1
                cases h9 : (rows.map z).all b <;> (rw [h9] at this; simpa using this)
    · have h2 : ltoldM size v = false := by cases v <;> first | rfl | exact absurd ⟨_, rfl⟩ hv
      have hkx' : known v := by cases v <;> first | exact hk | exact absurd ⟨_, rfl⟩ hv
      obtain ⟨t, ht⟩ := hkx'
      have hkt : kitB t "tuple" = some false := by cases v <;> first | (cases ht; done) | (cases Option.some.inj ht; first | decide +kernel | exact absurd ⟨_, rfl⟩ hv)
      refine q_if (k := true || true) (c_w (w_or (l := true) (c_not (k := false) (c_val (e_isi T.isi (e_var 1) (e_ty "tuple" T.tuple (by decide +kernel)) ht hkt))) (fun z => nomatch z) (fun _ => rfl))) (fun h => ?_) (fun h => nomatch h)
      refine q_ret e_bl ?_
      rcases hh with ⟨_, rfl⟩ | ⟨_, _, ht, _⟩
      · rfl
      · rw [h2] at ht
        cases ht
end
end Q
end

/-! text W22 -/
section
set_option Elab.async false
set_option linter.all false
set_option maxRecDepth 100000
/-! near -/
namespace Q
open PySem PySem.Spec PyProof.Rows L2
abbrev rI (rows : List (List Int)) : List B := rows.map it
def nearLine (rows : List (List Int)) (a t : Nat) (e : B) : B := .tup (cut (rI rows) none (some (a : Int)) ++ [.tup (cut (iB (rows.getD a [])) none (some (t : Int)) ++ [e] ++ cut (iB (rows.getD a [])) (some ((t : Int) + 1)) none)] ++ cut (rI rows) (some ((a : Int) + 1)) none)
def nearVals (x : Int) : List B := [.int (x + 1), .int (x - 1), .int (-x), .int (2 * x), .bl true, .non, .int 0]
def nearHead (rows : List (List Int)) (last : List Int) : List B := [rB rows, .lst (rI rows), .tup (cut (rI rows) none (some (-1))), .tup (rI rows ++ cut (rI rows) none (some 1)), .non, .tup (rI rows).reverse, .tup (cut (rI rows) none (some (-1)) ++ [.lst (iB last)]), .str "1 0/0 1"]
def nearTail (rows : List (List Int)) (last : List Int) : List B := [.tup (rows.map fun r => it (r.map fun e => 2 * e)), .tup (cut (rI rows) none (some (-1)) ++ [it (last.map fun e => 3 * e)]), .tup (cut (rI rows) none (some (-1)) ++ [.tup (cut (iB last) none (some (-1)))])]
def nearL (rows : List (List Int)) (last : List Int) (a t : Nat) : List B := nearHead rows last ++ (nearVals ((rows.getD a []).getD t 0)).map (nearLine rows a t) ++ nearTail rows last
def R_law_near (ds bs : List B) (r : B) (ds' : List B) : Prop := ∃ (d : Dice) (rows : List (List Int)) (last : List Int), ds = d.bs ∧ bs = [rB rows] ∧ d.okN 10 ∧ 1 ≤ rows.length ∧ rows.length ≤ 100 ∧ (∀ row ∈ rows, row.length = rows.length) ∧ atI rows (-1) = some last ∧ (∀ row ∈ rows, ∀ e ∈ row, CMulX 2 e ∧ CMulX 3 e) ∧
  r = .lst (nearL rows last (rollV d rows.length).toNat (rollV (rollD d rows.length) rows.length).toNat) ∧ ds' = (rollD (rollD d rows.length) rows.length).bs
abbrev st_law_near : Stmt := top 88
abbrev NR : List Str := ["_law_dice_here", "_law_rows", "_law_size", "_law_at", "_law_to", "_law_found", "_law_entry", "_law_line", "_law_double", "_law_row"]
theorem sc_law_near : FnScope NR ["_law_dice_here", "_law_rows"] (defScope st_law_near) := ⟨rfl, rfl, rfl, by decide +kernel, rfl, by decide +kernel, by decide +kernel⟩
abbrev sc_ne : Scope := { kind := .function, names := [(".0", .local), ("_law_row", .local), ("tuple", .globalImplicit)], isGenerator := false, isCoroutine := false }
theorem getD_mem {α : Type} {l : List α} {i : Nat} {d : α} (h : i < l.length) : l.getD i d ∈ l := by
  rw [List.getD_eq_getElem?_getD, List.getElem?_eq_getElem h]
  exact List.getElem_mem h
theorem cut_le {α : Type} (xs : List α) (lo hi : Option Int) : (cut xs lo hi).length ≤ xs.length := by
  unfold cut
  rw [List.length_take, List.length_drop]
  omega
section
variable {P : Program} {w : World} {K : PySem.W.Frag} {mg : Str → Option Value} {base : Heap} {C : Ct}
theorem ok_law_near {f : Addr} {fd : FuncData} (F : Fun K "_law_near" "_law_near" st_law_near f fd) (T : Bi mg) (D : Dn P w K mg base "_law_roll" 1 (spD C R_law_roll)) (hb : Binds K fd ["_law_dice_here", "_law_rows"] []) : FnR P w K mg base CX0 2 f (spD C R_law_near) := by
  refine defD_ok F sc_law_near hb (fun ds bs r ds' h => ?_) (fun cdv A outer s H E ds bs r ds' hr h => ?_)
  · obtain ⟨d, rows, last, rfl, rfl, _⟩ := h
    rfl
  · obtain ⟨d, rows, last, rfl, rfl, hd, l1, l2, hlen, hla, hmul, rfl, rfl⟩ := h
    have lR : (rI rows).length = rows.length := List.length_map ..
    have cl : ∀ lo hi, (cut (rI rows) lo hi).length ≤ 100 := fun lo hi => by have := cut_le (rI rows) lo hi; omega
    refine q_set (x := .int (rows.length : Int)) 2 (e_cv (e_len false T.len (e_var 1)) (by rw [lR])) sc_law_near.nd ?_
    have r1 := roll_range d (t := (rows.length : Int)) (by omega)
    have r2 := roll_range (rollD d rows.length) (t := (rows.length : Int)) (by omega)
    have o1 : (rollD d rows.length).okN 9 := hd.roll (by omega)
    obtain ⟨a, ha⟩ : ∃ a : Nat, a = (rollV d rows.length).toNat := ⟨_, rfl⟩
    obtain ⟨t, ht⟩ : ∃ t : Nat, t = (rollV (rollD d rows.length) rows.length).toNat := ⟨_, rfl⟩
    rw [← ha, ← ht]
    have ea : rollV d rows.length = (a : Int) := by omega
    have et : rollV (rollD d rows.length) rows.length = (t : Int) := by omega
    have al : a < rows.length := by omega
    have tl : t < rows.length := by omega
    refine q_par (x := .int (a : Int)) (y := .int (t : Int)) 3 4 (e_callD (R := R_law_roll) 0 D (hr.mono (by omega)) (a_cons (e_var 2) a_nil) ⟨d, _, rfl, rfl, hd.ok, by omega, by omega, by rw [ea], rfl⟩) (e_callD (R := R_law_roll) 0 D (hr.mono (by omega)) (a_cons (e_var 2) a_nil) ⟨rollD d rows.length, _, rfl, rfl, o1.ok, by omega, by omega, by rw [et], rfl⟩) rfl sc_law_near.nd ?_
    have hrow : rows.getD a [] ∈ rows := getD_mem al
    have lrow : (rows.getD a []).length = rows.length := hlen _ hrow
    have llast : last.length = rows.length := by
      unfold atI ixN at hla
      rw [if_neg (by omega), if_pos (by omega)] at hla
      exact hlen _ (List.mem_of_getElem? hla)
    have mlast : last ∈ rows := by
      unfold atI ixN at hla
      rw [if_neg (by omega), if_pos (by omega)] at hla
      exact List.mem_of_getElem? hla
    have g1 : atI (rI rows) (a : Int) = some (it (rows.getD a [])) := atI_map it (atI_D al)
    have g2 : atI (iB (rows.getD a [])) (t : Int) = some (.int ((rows.getD a []).getD t 0)) := atI_iB (atI_D (by omega))
    have g3 : atI (rI rows) (-1) = some (it last) := atI_map it hla
    have mrow : (rows.getD a []).getD t 0 ∈ rows.getD a [] := getD_mem (by omega)
    have lrl : (iB last).length = last.length := List.length_map ..
    have lrr : (iB (rows.getD a [])).length = rows.length := by rw [List.length_map, lrow]
    have cr : ∀ lo hi, (cut (iB (rows.getD a [])) lo hi).length ≤ 100 := fun lo hi => by have := cut_le (iB (rows.getD a [])) lo hi; omega
    have sz : ∀ n : Nat, n ≤ 1000 → n ≤ sizeLine := fun n h => by rw [sizeLine_eq]; omega
    refine q_own (o := .lst (nearHead rows last)) 5 (f_lst (a_cons (e_var 1) (a_cons (e_of (f_list false T.list (e_var 1))) (a_cons (e_slT (xs := rI rows) (i := none) (j := some (-1)) (e_var 1) i_none (i_some (e_neg e_int)))
      (a_cons (e_catT (xs := rI rows) (e_var 1) (e_slT (xs := rI rows) (i := none) (j := some 1) (e_var 1) i_none (i_some e_int)) (sz _ (by have := cl none (some 1); omega))) (a_cons e_non (a_cons (e_revT (xs := rI rows) (e_var 1))
      (a_cons (e_catT (e_slT (xs := rI rows) (i := none) (j := some (-1)) (e_var 1) i_none (i_some (e_neg e_int))) (e_tup (a_cons (e_of (f_list false T.list (e_ixT (xs := rI rows) (e_var 1) (e_neg e_int) g3))) a_nil) (sz 1 (by omega))) (sz _ (by have := cl none (some (-1)); show _ + 1 ≤ _; omega))) (a_cons e_str a_nil)))))))) (sz 8 (by omega))) sc_law_near.nd ?_
    refine q_forI (fun (u : List B) => [.ow (.lst (rollD (rollD d rows.length) rows.length).bs), .va (rB rows), .va (.int (rows.length : Int)), .va (.int (a : Int)), .va (.int (t : Int)), .ow (.lst u), .un, .un, .un, .un]) (nearVals ((rows.getD a []).getD t 0)) id (fun u e => u ++ [nearLine rows a t e]) (nearHead rows last) (fun i u => u.length = 8 + i ∧ i ≤ 7) PassesOwn.never rfl ?_ (Weak.refl _) ⟨rfl, by omega⟩ (fun i u z hz hu => ?_) (fun _ => ?_)
    · refine v_cv (v_tup (e_tup (a_cons (e_add (e_ixT (xs := iB (rows.getD a [])) (e_ixT (xs := rI rows) (e_var 1) (e_var 3) g1) (e_var 4) g2) e_int) (a_cons (e_sub (e_ixT (xs := iB (rows.getD a [])) (e_ixT (xs := rI rows) (e_var 1) (e_var 3) g1) (e_var 4) g2) e_int)
        (a_cons (e_neg (e_ixT (xs := iB (rows.getD a [])) (e_ixT (xs := rI rows) (e_var 1) (e_var 3) g1) (e_var 4) g2)) (a_cons (e_mul e_int (e_ixT (xs := iB (rows.getD a [])) (e_ixT (xs := rI rows) (e_var 1) (e_var 3) g1) (e_var 4) g2) (hmul _ hrow _ mrow).1) (a_cons e_bl (a_cons e_non (a_cons e_int a_nil))))))) (sz 7 (by omega)))) (List.map_id _).symm
    · have hi : i < 7 := (List.getElem?_eq_some_iff.mp hz).1
      refine ⟨⟨by show List.length (u ++ [_]) = _; rw [List.length_append, hu.1]; show 8 + i + 1 = _; omega, by omega⟩, _, _, g_name 6 sc_law_near.nd, ?_⟩
      refine q_set (x := .tup (cut (iB (rows.getD a [])) none (some (t : Int)) ++ [z] ++ cut (iB (rows.getD a [])) (some ((t : Int) + 1)) none)) 7 (e_catT (e_catT (e_slT (xs := iB (rows.getD a [])) (i := none) (j := some (t : Int)) (e_ixT (xs := rI rows) (e_var 1) (e_var 3) g1) i_none (i_some (e_var 4))) (e_tup (a_cons (e_var 6) a_nil) (sz 1 (by omega))) (sz _ (by have := cr none (some (t : Int)); show _ + 1 ≤ _; omega)))
        (e_slT (xs := iB (rows.getD a [])) (i := some ((t : Int) + 1)) (j := none) (e_ixT (xs := rI rows) (e_var 1) (e_var 3) g1) (i_some (e_add (e_var 4) e_int)) i_none) (sz _ (by have h1 := cr none (some (t : Int)); have h2 := cr (some ((t : Int) + 1)) none; rw [List.length_append]; show _ + 1 + _ ≤ _; omega))) sc_law_near.nd ?_
      refine q_app (xs := u) (ys := u) (x := nearLine rows a t z) 5 (e_catT (e_catT (e_slT (xs := rI rows) (i := none) (j := some (a : Int)) (e_var 1) i_none (i_some (e_var 3))) (e_tup (a_cons (e_var 7) a_nil) (sz 1 (by omega))) (sz _ (by have := cl none (some (a : Int)); show _ + 1 ≤ _; omega)))
        (e_slT (xs := rI rows) (i := some ((a : Int) + 1)) (j := none) (e_var 1) (i_some (e_add (e_var 3) e_int)) i_none) (sz _ (by have h1 := cl none (some (a : Int)); have h2 := cl (some ((a : Int) + 1)) none; rw [List.length_append]; show _ + 1 + _ ≤ _; omega))) (by rw [hu.1, sizeLine_eq]; omega) ?_
      exact q_nil (loop_nx (by repeat (first | exact Weak.nil | apply Weak.un | apply Weak.eq)) rfl)
    · have ef : ∀ (l h : List B), l.foldl (fun u e => u ++ [nearLine rows a t e]) h = h ++ l.map (nearLine rows a t) := fun l => by
        induction l with
        | nil => intro h; rw [List.map_nil, List.append_nil]; rfl
        | cons x r ih =>
          intro h
          rw [List.foldl_cons, ih, List.map_cons, List.append_assoc]
          rfl
      rw [ef]
      have lf : (nearHead rows last ++ (nearVals ((rows.getD a []).getD t 0)).map (nearLine rows a t)).length = 15 := rfl
      refine q_set (x := .tup (rows.map fun r => it (r.map fun e => 2 * e))) 8 (e_tuple true T.tuple (e_of (f_lcA (own := [("_law_row", 9)]) rows it (fun r => [.un, .va (rB rows), .va (.int (rows.length : Int)), .va (.int (a : Int)), .va (.int (t : Int)), .un, .un, .un, .un, .va (it r)]) (fun r => it (r.map fun e => 2 * e)) rfl sc_law_near.nd
        (v_tup (e_var 1)) (blkOk_by (N := NR) (sc := defScope st_law_near) (by decide +kernel)) (blk_of _ _) (fun _ _ _ _ _ z hz => g_name 9 sc_law_near.nd)
        (fun s' H' Ca cl' fp r hrr => e_tuple true T.tuple (e_of (f_cv (f_lcA (own := [("_law_entry", 6)]) r B.int (fun e => [.un, .va (rB rows), .va (.int (rows.length : Int)), .va (.int (a : Int)), .va (.int (t : Int)), .un, .va (.int e), .un, .un, .va (it r)]) (fun e => .int (2 * e)) rfl sc_law_near.nd
          (v_tup (e_var 9)) (blkOk_by (N := NR) (sc := sc_ne) (by decide +kernel)) (blk_of _ _) (fun _ _ _ _ _ z hz => g_name 6 sc_law_near.nd)
          (fun _ _ _ _ _ e he => e_mul e_int (e_var 6) (hmul _ hrr _ he).1) (sz _ (by rw [hlen r hrr]; omega))) (by rw [iB, List.map_map]; rfl)))) (sz _ (by omega))))) sc_law_near.nd ?_
      refine q_frz (xs := nearHead rows last ++ (nearVals ((rows.getD a []).getD t 0)).map (nearLine rows a t)) 5 (k := ?_)
      refine q_ret (e_of (f_cat (ys := nearTail rows last) (e_var 5) (e_lst (a_cons (e_var 8) (a_cons (e_catT (xs := cut (rI rows) none (some (-1))) (ys := [it (last.map fun e => 3 * e)]) (e_slT (xs := rI rows) (i := none) (j := some (-1)) (e_var 1) i_none (i_some (e_neg e_int))) (e_tup (a_cons (e_tuple true T.tuple (e_of (f_cv (f_lcA (own := [("_law_entry", 6)]) last B.int (fun e => [.un, .va (rB rows), .va (.int (rows.length : Int)), .va (.int (a : Int)), .va (.int (t : Int)), .va (.lst (nearHead rows last ++ (nearVals ((rows.getD a []).getD t 0)).map (nearLine rows a t))), .va (.int e), .un, .va (.tup (rows.map fun r => it (r.map fun e => 2 * e))), .un]) (fun e => .int (3 * e)) rfl sc_law_near.nd
          (v_tup (e_ixT (xs := rI rows) (e_var 1) (e_neg e_int) g3)) (blkOk_by (N := NR) (sc := defScope st_law_near) (by decide +kernel)) (blk_of _ _) (fun _ _ _ _ _ z hz => g_name 6 sc_law_near.nd)
          (fun _ _ _ _ _ e he => e_mul e_int (e_var 6) (hmul _ mlast _ he).2) (sz _ (by omega))) (by rw [iB, List.map_map]; rfl)))) a_nil) (sz 1 (by omega))) (sz _ (by have := cl none (some (-1)); show _ + 1 ≤ _; omega)))
        (a_cons (e_catT (xs := cut (rI rows) none (some (-1))) (ys := [.tup (cut (iB last) none (some (-1)))]) (e_slT (xs := rI rows) (i := none) (j := some (-1)) (e_var 1) i_none (i_some (e_neg e_int))) (e_tup (a_cons (e_slT (xs := iB last) (i := none) (j := some (-1)) (e_ixT (xs := rI rows) (e_var 1) (e_neg e_int) g3) i_none (i_some (e_neg e_int))) a_nil) (sz 1 (by omega))) (sz _ (by have := cl none (some (-1)); show _ + 1 ≤ _; omega))) a_nil))) (sz 3 (by omega))) (sz _ (by rw [lf]; show 15 + 3 ≤ _; omega)))) ?_
      exact ⟨rfl, rfl⟩
end
end Q
end

/-! text W23 -/
section
set_option Elab.async false
set_option linter.all false
set_option maxRecDepth 100000
/-! ideal_rows, ideal_drawn, over what span_rows promises (RS) -/
namespace Q
open PySem PySem.Spec PyProof.Rows L2
def R_law_ideal_rows (RS : List B → B → Prop) (bs : List B) (r : B) : Prop := ∃ (n : Int) (members : List (List Int)) (poly : List Int) (p : Nat → B) (tm : List Int → Nat → List Int) (q : List (List Int)), bs = [.int n, .lst (members.map it)] ∧ R_law_cyclotomic [.int n] (il poly) ∧ 1 ≤ poly.length ∧ poly.length ≤ 100 ∧ members.length ≤ 10 ∧
  (∀ m ∈ members, ∀ k, k < poly.length - 1 → R_law_turn_power [.int n, .int (0 + (k : Int))] (p k) ∧ R_law_turn_times [.int n, it m, p k] (it (tm m k))) ∧
  RS [.lst ((members.flatMap fun m => (List.range (poly.length - 1)).map (tm m)).map it), .int ((poly.length - 1 : Nat) : Int)] (.lst (q.map it)) ∧ r = rB q
abbrev st_law_ideal_rows : Stmt := top 81
abbrev NIr : List Str := ["_law_order", "_law_members", "_law_size", "_law_found", "_law_one", "_law_many", "$"]
theorem sc_law_ideal_rows : FnScope NIr ["_law_order", "_law_members"] (defScope st_law_ideal_rows) := ⟨rfl, rfl, rfl, by decide +kernel, rfl, by decide +kernel, by decide +kernel⟩
section
variable {P : Program} {w : World} {K : PySem.W.Frag} {mg : Str → Option Value} {base : Heap} {C : Ct}
theorem ok_law_ideal_rows {RS : List B → B → Prop} {ks : Nat} {Tb : List (Addr × Str)} {f : Addr} {fd : FuncData} (F : Fun K "_law_ideal_rows" "_law_ideal_rows" st_law_ideal_rows f fd) (T : Bi mg) (D1 : Dn P w K mg base "_law_cyclotomic" 2 (spR C R_law_cyclotomic)) (D2 : Dn P w K mg base "_law_turn_times" 4 (spR C R_law_turn_times)) (D3 : Dn P w K mg base "_law_turn_power" 4 (spR C R_law_turn_power))
    (D4 : Dn P w K mg base "_law_span_rows" ks (spRT C Tb RS)) (hb : Binds K fd ["_law_order", "_law_members"] []) : FnR P w K mg base CX0 (ks + 5) f (spRT C Tb (R_law_ideal_rows RS)) := by
  refine defT_ok (N := NIr) (Pc := fun _ => True) F trivial sc_law_ideal_rows hb (by decide) (fun bs r h => ?_) (fun cdv A outer s H E bs r _ hr h => ?_)
  · obtain ⟨n, members, poly, p, tm, q, rfl, _⟩ := h
    rfl
  · obtain ⟨n, members, poly, p, tm, q, rfl, hp, l1, l2, l3, hz, hs, rfl⟩ := h
    have lp : (iB poly).length = poly.length := List.length_map ..
    have es : ((poly.length : Int) - 1) = ((poly.length - 1 : Nat) : Int) := by omega
    refine q_parVO (x := .int ((poly.length - 1 : Nat) : Int)) (o := .lst []) 2 3 (e_cv (e_sub (e_len true T.len (e_call (R := R_law_cyclotomic) D1 (hr.mono (by omega)) (a_cons (e_var 0) a_nil) hp)) e_int) (by rw [lp, es])) (f_lst a_nil (by decide)) rfl sc_law_ideal_rows.nd ?_
    refine q_frz (xs := []) 3 (k := ?_)
    refine q_forI (fun (s : List (List Int)) => [.va (.int n), .va (.lst (members.map it)), .va (.int ((poly.length - 1 : Nat) : Int)), .va (.lst (s.map it)), .un, .un, .tk Tb]) members it (fun s m => s ++ (List.range (poly.length - 1)).map (tm m)) [] (fun i s => s.length = i * (poly.length - 1) ∧ i ≤ members.length) PassesOwn.never rfl
      (v_list (e_var 1)) (Weak.refl _) ⟨by rw [Nat.zero_mul]; rfl, by omega⟩ (fun i u m hm hu => ?_) (fun _ => ?_)
    · have hi : i < members.length := (List.getElem?_eq_some_iff.mp hm).1
      have mm : m ∈ members := List.mem_of_getElem? hm
      have bd : i * (poly.length - 1) ≤ 10 * 100 := Nat.mul_le_mul (by omega) (by omega)
      refine ⟨⟨by show List.length (u ++ _) = _; rw [List.length_append, hu.1, List.length_map, List.length_range, Nat.add_mul, Nat.one_mul], by omega⟩, _, _, g_name 4 sc_law_ideal_rows.nd, ?_⟩
      refine q_set (x := .lst ((u ++ (List.range (poly.length - 1)).map (tm m)).map it)) 3 (e_cb (e_of (f_cat (xs := u.map it) (ys := (List.range (poly.length - 1)).map fun k => it (tm m k)) (e_var 3) (e_of (f_lcA (own := [("_law_many", 5)]) (List.range (poly.length - 1)) (fun (k : Nat) => B.int (0 + (k : Int))) (fun (k : Nat) => [.va (.int n), .va (.lst (members.map it)), .va (.int ((poly.length - 1 : Nat) : Int)), .va (.lst (u.map it)), .va (it m), .va (.int (0 + (k : Int))), .un]) (fun k => it (tm m k)) rfl sc_law_ideal_rows.nd
        (v_rng1 T.range (a_cons (e_var 2) a_nil) (by omega)) (blkOk_by (N := NIr) (sc := defScope st_law_ideal_rows) (by decide +kernel)) (blk_of _ _) (fun _ _ _ _ _ z hz => g_name 5 sc_law_ideal_rows.nd)
        (fun _ _ _ _ _ k hk => e_call (R := R_law_turn_times) D2 (hr.mono (by omega)) (a_cons (e_var 0) (a_cons (e_var 4) (a_cons (e_call (R := R_law_turn_power) D3 (hr.mono (by omega)) (a_cons (e_var 0) (a_cons (e_var 5) a_nil)) (hz m mm k (List.mem_range.mp hk)).1) a_nil))) (hz m mm k (List.mem_range.mp hk)).2) (by rw [List.length_range, sizeLine_eq]; omega))) (by rw [List.length_map, List.length_map, List.length_range, hu.1, sizeLine_eq]; omega))) (by rw [List.map_append, List.map_map]; rfl)) sc_law_ideal_rows.nd ?_
      exact q_nil (loop_nx (by repeat (first | exact Weak.nil | apply Weak.un | apply Weak.eq)) rfl)
    · have ef : ∀ (l : List (List Int)) (h : List (List Int)), l.foldl (fun s m => s ++ (List.range (poly.length - 1)).map (tm m)) h = h ++ l.flatMap fun m => (List.range (poly.length - 1)).map (tm m) := fun l => by
        induction l with
        | nil => intro h; rw [List.flatMap_nil, List.append_nil]; rfl
        | cons x r ih =>
          intro h
          rw [List.foldl_cons, ih, List.flatMap_cons, List.append_assoc]
      rw [ef, List.nil_append]
      exact q_ret (e_tuple true T.tuple (e_callT 6 (R := RS) D4 (hr.mono (by omega)) (a_cons (e_var 3) (a_cons (e_var 2) a_nil)) hs rfl)) rfl
end
end Q
end

/-! text W24 -/
section
set_option Elab.async false
set_option linter.all false
set_option maxRecDepth 100000
/-! ideal_drawn -/
namespace Q
open PySem PySem.Spec PyProof.Rows L2
def wholes : List Int := [2, 3, 4, 5, 6, 7, 11, 13, 15]
def wholeV (d : Dice) : Int := wholes.getD (rollV d 9).toNat 0
def R_law_ideal_drawn (RS : List B → B → Prop) (ds bs : List B) (r : B) (ds' : List B) : Prop := ∃ (d : Dice) (n : Int) (x : List Int) (d1 : Dice), ds = d.bs ∧ bs = [.int n] ∧ R_law_turn_other d.bs [.int n, .int 4] (it x) d1.bs ∧ d1.okN 3 ∧
  ((rollV d1 3 = 0 ∧ R_law_ideal_rows RS [.int n, .lst [it x]] r ∧ ds' = (rollD d1 3).bs) ∨
   (0 < rollV d1 3 ∧ ∃ y, R_law_turn_whole [.int n, .int (wholeV (rollD d1 3))] (it y) ∧ R_law_ideal_rows RS [.int n, .lst [it x, it y]] r ∧ ds' = (rollD (rollD d1 3) 9).bs))
abbrev st_law_ideal_drawn : Stmt := top 85
theorem sc_law_ideal_drawn : FnScope ["_law_dice_here", "_law_order", "_law_members", "$"] ["_law_dice_here", "_law_order"] (defScope st_law_ideal_drawn) := ⟨rfl, rfl, rfl, by decide +kernel, rfl, by decide +kernel, by decide +kernel⟩
section
variable {P : Program} {w : World} {K : PySem.W.Frag} {mg : Str → Option Value} {base : Heap} {C : Ct}
theorem ok_law_ideal_drawn {RS : List B → B → Prop} {ks : Nat} {Tb : List (Addr × Str)} {f : Addr} {fd : FuncData} (F : Fun K "_law_ideal_drawn" "_law_ideal_drawn" st_law_ideal_drawn f fd) (D1 : Dn P w K mg base "_law_turn_other" 4 (spD C R_law_turn_other)) (D2 : Dn P w K mg base "_law_roll" 1 (spD C R_law_roll)) (D3 : Dn P w K mg base "_law_pick" 2 (spD C R_law_pick)) (D4 : Dn P w K mg base "_law_turn_whole" 4 (spR C R_law_turn_whole))
    (D5 : Dn P w K mg base "_law_ideal_rows" (ks + 5) (spRT C Tb (R_law_ideal_rows RS))) (hb : Binds K fd ["_law_dice_here", "_law_order"] []) : FnR P w K mg base CX0 (ks + 6) f (spDT C Tb (R_law_ideal_drawn RS)) := by
  refine defDT_ok F sc_law_ideal_drawn hb (by decide) (fun ds bs r ds' h => ?_) (fun cdv A outer s H E ds bs r ds' hr h => ?_)
  · obtain ⟨d, n, x, d1, rfl, rfl, _⟩ := h
    rfl
  · obtain ⟨d, n, x, d1, rfl, rfl, h1, hd, h⟩ := h
    refine q_own (o := .lst [it x]) 2 (f_lst (a_cons (e_callD (R := R_law_turn_other) (ds' := d1.bs) 0 D1 (hr.mono (by omega)) (a_cons (e_var 1) (a_cons e_int a_nil)) h1) a_nil) (by show 1 ≤ sizeLine; decide)) sc_law_ideal_drawn.nd ?_
    have o1 : (rollD d1 3).okN 2 := hd.roll (by omega)
    refine q_if (k := decide (0 < rollV d1 3)) (c_gt (e_callD (R := R_law_roll) (ds' := (rollD d1 3).bs) 0 D2 (hr.mono (by omega)) (a_cons e_int a_nil) ⟨d1, 3, rfl, rfl, hd.ok, by omega, by omega, rfl, rfl⟩) e_int) (fun hk => ?_) (fun hk => ?_)
    · have h0 := of_decide_eq_true hk
      rcases h with ⟨hz, _⟩ | ⟨_, y, hy, hi, rfl⟩
      · rw [hz] at h0
        omega
      · have rr := roll_range (rollD d1 3) (t := 9) (by omega)
        have hl : (rollV (rollD d1 3) 9).toNat < wholes.length := by show _ < 9; omega
        refine q_app (xs := [it x]) (ys := [it x]) (x := it y) 2 (e_call (R := R_law_turn_whole) D4 (hr.mono (by omega)) (a_cons (e_var 1) (a_cons (e_callD (R := R_law_pick) (z := .int (wholeV (rollD d1 3))) (ds' := (rollD (rollD d1 3) 9).bs) 0 D3 (hr.mono (by omega)) (a_cons (e_lst (a_cons e_int (a_cons e_int (a_cons e_int (a_cons e_int (a_cons e_int (a_cons e_int (a_cons e_int (a_cons e_int (a_cons e_int a_nil))))))))) (by show 9 ≤ sizeLine; decide)) a_nil) ⟨rollD d1 3, true, iB wholes, rfl, rfl, o1.ok, by decide, by decide, ?_, rfl⟩) a_nil)) hy) (by show 1 < sizeLine; decide) ?_
        · show (wholes.map B.int)[(rollV (rollD d1 3) 9).toNat]? = some (.int (wholes.getD (rollV (rollD d1 3) 9).toNat 0))
          rw [List.getElem?_map, List.getD_eq_getElem?_getD, List.getElem?_eq_getElem hl]
          rfl
        · refine q_nil (q_frz (xs := [it x, it y]) 2 (k := ?_))
          exact q_ret (e_callT 3 (R := R_law_ideal_rows RS) D5 hr (a_cons (e_var 1) (a_cons (e_var 2) a_nil)) hi rfl) ⟨rfl, rfl⟩
    · have h0 := of_decide_eq_false hk
      rcases h with ⟨_, hi, rfl⟩ | ⟨hz, _⟩
      · refine q_nil (q_frz (xs := [it x]) 2 (k := ?_))
        exact q_ret (e_callT 3 (R := R_law_ideal_rows RS) D5 hr (a_cons (e_var 1) (a_cons (e_var 2) a_nil)) hi rfl) ⟨rfl, rfl⟩
      · exact absurd hz h0
end
end Q
end

/-! text LayY -/
section
set_option Elab.async false
set_option linter.all false
set_option maxRecDepth 100000
/-! an __init__ that raises; try: return X(..).f / except E: return None -/
namespace Q
open PySem PySem.Spec PyProof.Rows L2
section
variable {X : Cx} {C : Ct} {e a b c : Expr} {es : List Expr} {ρ ρ1 ρ2 : List Sl} {x y z : B} {xs ys bs : List B} {pos : Pos} {rest : List Stmt}
/-- a block that ends by an exception: what is known where it is raised -/
def sXc (C : Ct) (ρ : List Sl) (px : List Sl → Prop) (R : L2.St → Hp → Prop) : TS := fun _ σ H => ∃ β H0, Sat C β σ H0 H ρ ∧ ∀ ρ', px ρ' → ∀ σ' H0' H', Ex H0 H0' → Sat C β σ' H0' H' ρ' → R σ' H'
abbrev XB (C : Ct) (X : Cx) (sts : List Stmt) (ρ : List Sl) (px : List Sl → Prop) (R : L2.St → Hp → Prop) : Prop := PSs X sts (sXc C ρ px R)
variable {px : List Sl → Prop} {R : L2.St → Hp → Prop}
theorem x_cons {st : Stmt} (h1 : S1 C X st ρ (fun o => o = .nx ρ1)) (h2 : XB C X rest ρ1 px R) : XB C X (st :: rest) ρ px R := by
  refine ⟨fun pins s σ H D I ⟨β, H0, V, k⟩ => ?_⟩
  refine wpAny_execs_cons (thn (h1.run pins s σ H { D with nx := fun σ' H' => ∃ H0', Ex H0 H0' ∧ Sat C β σ' H0' H' ρ1 } I
    ⟨β, H0, V, fun ρ' p σ' G G' g W => ?_, (fun b ρ' p => nomatch p), (fun ρ' p => nomatch p), (fun ρ' p => nomatch p), (fun bs ρ' p => nomatch p)⟩) fun f s1 q => ?_)
  · cases p
    exact ⟨G, g, W⟩
  · cases f with
    | next =>
      obtain ⟨σ', H', I', G, g, W⟩ := q
      exact h2.run pins s1 σ' H' D I' ⟨β, G, W, fun ρ' p σ2 G2 G2' g2 W2 => k ρ' p σ2 G2 G2' (g.trans g2) W2⟩
    | ret v => exact q
    | brk => exact q
    | cont => exact q
theorem x_if {as bs : List Stmt} {k : Bool} (hc : CB C X c ρ k ρ1) (h1 : k = true → XB C X as ρ1 px R) (h2 : k = false → PSs X bs (fun D σ H => ∃ β H0, Sat C β σ H0 H ρ1 ∧ ∀ σ' H0' H', Ex H0 H0' → Sat C β σ' H0' H' ρ2 → D.nx σ' H') ∧ XB C X rest ρ2 px R) : XB C X (.If c as bs pos :: rest) ρ px R := by
  refine ⟨fun pins s σ H D I ⟨β, H0, V, q⟩ => ?_⟩
  cases k with
  | true =>
    refine wpAny_execs_cons (thn ((ps_if hc (h1 rfl) (u := fun _ _ _ => False) ⟨fun _ _ _ _ _ _ z => z.elim⟩).run pins s σ H { nx := fun _ _ => False, rt := fun _ _ => False, bk := fun _ _ => False, ct := fun _ _ => False } I ⟨β, H0, V, fun H1 H1' e1 V1 => iteT ⟨β, H1, V1, fun ρ' p σ' G G' g W => q ρ' p σ' G G' (e1.trans g) W⟩⟩) fun f s1 q => ?_)
    cases f with
    | next => obtain ⟨_, _, _, z⟩ := q; exact z.elim
    | ret v => obtain ⟨_, _, _, _, _, z⟩ := q; exact z.elim
    | brk => obtain ⟨_, _, _, z⟩ := q; exact z.elim
    | cont => obtain ⟨_, _, _, z⟩ := q; exact z.elim
  | false =>
    obtain ⟨hb, hr⟩ := h2 rfl
    refine wpAny_execs_cons (thn ((ps_if hc (t := fun _ _ _ => False) ⟨fun _ _ _ _ _ _ z => z.elim⟩ hb).run pins s σ H { D with nx := fun σ' H' => ∃ H0', Ex H0 H0' ∧ Sat C β σ' H0' H' ρ2 } I ⟨β, H0, V, fun H1 H1' e1 V1 => iteF ⟨β, H1, V1, fun σ' G G' g W => ⟨G, e1.trans g, W⟩⟩⟩) fun f s1 q2 => ?_)
    cases f with
    | next =>
      obtain ⟨σ', H', I', G, g, W⟩ := q2
      exact hr.run pins s1 σ' H' D I' ⟨β, G, W, fun ρ' p σ2 G2 G2' g2 W2 => q ρ' p σ2 G2 G2' (g.trans g2) W2⟩
    | ret v => exact q2
    | brk => exact q2
    | cont => exact q2
/-- an if without an else, whose test is false in a block that raises later: the rest -/
theorem x_ifF {as bs : List Stmt} (hc : CB C X c ρ false ρ1) (h2 : XB C X bs ρ1 px R) : XB C X (.If c as bs pos :: rest) ρ px R := by
  refine ⟨fun pins s σ H D I ⟨β, H0, V, q⟩ => ?_⟩
  refine wpAny_execs_cons (thn ((ps_if hc (t := fun _ _ _ => False) ⟨fun _ _ _ _ _ _ z => z.elim⟩ h2).run pins s σ H { nx := fun _ _ => False, rt := fun _ _ => False, bk := fun _ _ => False, ct := fun _ _ => False } I ⟨β, H0, V, fun H1 H1' e1 V1 => iteF ⟨β, H1, V1, fun ρ' p σ' G G' g W => q ρ' p σ' G G' (e1.trans g) W⟩⟩) fun f s1 q => ?_)
  cases f with
  | next => obtain ⟨_, _, _, z⟩ := q; exact z.elim
  | ret v => obtain ⟨_, _, _, _, _, z⟩ := q; exact z.elim
  | brk => obtain ⟨_, _, _, z⟩ := q; exact z.elim
  | cont => obtain ⟨_, _, _, z⟩ := q; exact z.elim
theorem x_ifT {as bs : List Stmt} (hc : CB C X c ρ true ρ1) (h1 : XB C X as ρ1 px R) : XB C X (.If c as bs pos :: rest) ρ px R := by
  refine ⟨fun pins s σ H D I ⟨β, H0, V, q⟩ => ?_⟩
  refine wpAny_execs_cons (thn ((ps_if hc h1 (u := fun _ _ _ => False) ⟨fun _ _ _ _ _ _ z => z.elim⟩).run pins s σ H { nx := fun _ _ => False, rt := fun _ _ => False, bk := fun _ _ => False, ct := fun _ _ => False } I ⟨β, H0, V, fun H1 H1' e1 V1 => iteT ⟨β, H1, V1, fun ρ' p σ' G G' g W => q ρ' p σ' G G' (e1.trans g) W⟩⟩) fun f s1 q => ?_)
  cases f with
  | next => obtain ⟨_, _, _, z⟩ := q; exact z.elim
  | ret v => obtain ⟨_, _, _, _, _, z⟩ := q; exact z.elim
  | brk => obtain ⟨_, _, _, z⟩ := q; exact z.elim
  | cont => obtain ⟨_, _, _, z⟩ := q; exact z.elim
/-- the class n is an exception of the text, without an own __init__ -/
structure Xc (K : PySem.W.Frag) (mg : Str → Option Value) (n : Str) (A : Addr) : Prop where
  inn : PySem.W.excIn K A [.type "ValueError", .type "Exception", .type "BaseException", .type "object"] "ValueError.__new__" = true
  mg_ : mg n = some (.ref A)
  kp : PySem.W.keepIn K (.ref A) = true
  sub : PySem.W.subIn K (.ref A) (.type "BaseException") = some true
  ty : PySem.W.typeIn K (.ref A) = some (.type "type")
  ex : PySem.W.exmOne K (.ref A) (.ref A) = some true
/-- raise n('m') -/
theorem x_raise {n m : Str} {A : Addr} {j : Nat} {p p2 cp : Pos} {W : WX} (G : Xc X.K X.mg n A) (hc : X.calm = true) (tk : Takes X W) (hp : px ρ) (hg : Gl X n := by rfl) (hdb : (n == ("__debug__" : Str)) = false := by decide) :
    XB C X (.Raise (some (.Call (.Name n p) [.Constant (.str m) j p2] [] cp)) none pos :: rest) ρ px (fun σ H => W (.ref A) none σ H) := by
  refine ⟨fun pins s σ H D I ⟨β, H0, V, q⟩ => ?_⟩
  have h := ps_raise (pos := pos) hc tk (pmk_own (X := X) (m := m) (j := j) (p := p) (p2 := p2) (pos := cp) PySem.F.excBase_ValueError G.inn G.mg_ G.kp (raises_own G.sub G.ty) hg hdb)
  exact wpAny_execs_cons (thn (h.run pins s σ H { nx := fun _ _ => False, rt := fun _ _ => False, bk := fun _ _ => False, ct := fun _ _ => False } I (q ρ hp σ H0 H (Evl.Ex.refl _) V)) fun f s1 q => by
    cases f with
    | next => obtain ⟨_, _, _, z⟩ := q; exact z.elim
    | ret v => obtain ⟨_, _, _, _, _, z⟩ := q; exact z.elim
    | brk => obtain ⟨_, _, _, z⟩ := q; exact z.elim
    | cont => obtain ⟨_, _, _, z⟩ := q; exact z.elim)
end
/-- an __init__ of the class c that raises the exception of the class at A -/
def spIX (C : Ct) (c : Nat) (A : Addr) (R : List B → Prop) : Sp := fun vs H _ E => ∃ (x dx : Addr) (H0 Hc : Hp) (vs' : List V) (bs : List B), vs = .ref x :: vs' ∧ H = upd (upd Hc dx (.own x)) x (.ins (C.cls c) dx []) ∧ Hc x = none ∧ Hc dx = none ∧ dx ≠ x ∧
  Ex H0 Hc ∧ DenAll C H0 vs' bs ∧ R bs ∧ ∀ H0' H', Stp H0 Hc H0' H' → E (.ref A) none H'
section
variable {P : Program} {w : World} {K : PySem.W.Frag} {mg : Str → Option Value} {base : Heap} {C : Ct}
theorem initX_ok {x qual sn : Str} {st : Stmt} {f A0 : Addr} {fd : FuncData} {N ps : List Str} {k c : Nat} {R : List B → Prop} (F : Fun K x qual st f fd) (S : FnScope N (sn :: ps) (defScope st)) (hb : Binds K fd (sn :: ps) []) (len : ∀ bs, R bs → bs.length = ps.length)
    (hbody : ∀ (cdv : Value) (A : Around) (outer : List PySem.Env) (s : Shared) (H : Hp) (E : XK) (dx : Addr) (bs : List B), Room k (A.deeper (envOfC qual (defScope st) s.heap.objs.size f cdv)) → R bs → Takes (cxOf (L2.CX P w) P w K mg base N qual (defScope st) f cdv A outer s H E) (fun cls d _ H' => E cls d H') →
      XB C (cxOf (L2.CX P w) P w K mg base N qual (defScope st) f cdv A outer s H E) (defBody st) (.ow (.ins c dx []) :: (bs.map Sl.va ++ List.replicate (N.length - (bs.length + 1)) .un)) (fun _ => True) (fun σ H' => E (.ref A0) none H')) : FnR P w K mg base (L2.CX P w) (k + 1) f (spIX C c A0 R) := by
  have G : FnOk P w K mg base (L2.CX P w) (k + 1) f fd (sn :: ps) (spIX C c A0 R) := by
    refine F.okX S (fun vs H Q E h => ?_) (fun cdv A outer s H vs Q E hr h => ?_)
    · obtain ⟨a, dx, H0, Hc, vs', bs, rfl, _, _, _, _, _, d, hR, _⟩ := h
      rw [List.length_cons, List.length_cons, d.len, len bs hR]
    · obtain ⟨a, dx, H0, Hc, vs', bs, rfl, rfl, hx, hdx, ne, e, d, hR, q⟩ := h
      refine ⟨_, hbody cdv A outer s _ E dx bs hr hR (takes_of rfl rfl rfl rfl), _, H0, sat_init e d hx hdx ne, fun ρ' _ σ' G G' g W => ?_⟩
      refine q G G' ⟨g, W.ex, fun z h1 h2 => ?_⟩
      have n1 : z ≠ a := fun y => h1 (by rw [y]; exact hx)
      have n2 : z ≠ dx := fun y => h1 (by rw [y]; exact hdx)
      have eE : upd (upd Hc dx (.own a)) a (.ins (C.cls c) dx []) z = Hc z := by rw [upd_ne n1, upd_ne n2]
      obtain ⟨r1, r2⟩ := W.out z (by show upd _ _ _ _ ≠ none; rw [eE]; exact h1) h2 (fun y => y.elim n1 n2)
      exact ⟨r1, r2.trans eE⟩
  have z := G.raw hb .nil
  simp only [List.append_nil] at z
  exact z
end
/-- the class n, its __init__ that raises -/
structure MnX (P : Program) (w : World) (K : PySem.W.Frag) (mg : Str → Option Value) (base : Heap) (C : Ct) (n : Str) (c k : Nat) (sp : Sp) : Prop where
  mg_ : mg n = some (.ref (C.cls c))
  ex : ∃ f, Mk K (C.cls c) f ∧ FnR P w K mg base (L2.CX P w) k f sp
section
variable {X : Cx} {C : Ct} {e : Expr} {es : List Expr} {ρ ρ1 : List Sl} {x : B} {bs : List B} {pos : Pos} {rest : List Stmt} {post : Out → Prop}
/-- try: return e / except n: return None, e raises nothing -/
theorem q_tryOk {n : Str} {A : Addr} {p1 p2 p3 p4 p5 : Pos} {j : Nat} (G : Xc X.K X.mg n A) (hs : X.stack = X.env :: X.outer) (hf : X.env.frame = some X.env.locals) (he : ∀ (pn : List (Addr × Obj)) (xe : Value → Shared → Prop), EB C (X.tr pn xe) e ρ x ρ1) (hp : post (.rt x ρ1)) (hg : Gl X n := by rfl) (hdb : (n == ("__debug__" : Str)) = false := by decide) :
    SB C X (.Try [.Return (some e) p1] [.ExceptHandler (some (.Name n p2)) none [.Return (some (.Constant .none j p3)) p4] p5] [] [] pos :: rest) ρ post := by
  refine q_cons (ps_mono (ps_try_only (c := .ref A) (tb := fun _ D σ H => sOf C ρ (Thn C X rest post) D σ H) (ts := fun _ _ _ D σ H => D.rt .non H) (Wout := fun _ _ _ _ => False) hs hf ⟨hg, hdb, .inl G.mg_⟩ takes0 (fun W pn xe tk _ => pss_one (ps_mono (ps_ret (he pn xe)) fun D σ H ⟨β, H0, V, k⟩ => ⟨β, H0, V, fun v H1 H1' e1 V1 d1 => k.2.1 x _ hp v σ H1 H1' e1 V1 d1⟩)) fun a oe cls d pn _ _ => pss_one (ps_ret pe_non)) fun D σ H h => h)
/-- try: return m(e, ..).f / except n: return None, the making raises -/
theorem q_tryX {n m f : Str} {A : Addr} {p p1 p2 p3 p4 p5 cp ap : Pos} {j c k nf : Nat} {R : List B → Prop} {spf : Sp} (G : Xc X.K X.mg n A) (Dm : MnX X.prog X.w X.K X.mg X.base C m c k (spIX C c A R)) (Df : Pr X C c f nf spf) (hr : Room (k + 1) X.A) (hrf : Room (nf + 1) X.A) (hs : X.stack = X.env :: X.outer) (hf : X.env.frame = some X.env.locals)
    (ha : ∀ (pn : List (Addr × Obj)) (xe : Value → Shared → Prop), AB C (X.tr pn xe) (e :: es) ρ bs ρ1) (hR : R bs) (hp : post (.rt .non ρ1)) (hg : Gl X n := by rfl) (hdb : (n == ("__debug__" : Str)) = false := by decide) (hg2 : Gl X m := by rfl) (hdb2 : (m == ("__debug__" : Str)) = false := by decide)
    (hst : starEach (e :: es) X.env = (false, eval e X.env) :: starEach es X.env := by rfl) (hpl : (backTo cp (starEach es X.env)).any (·.1) = false := by rfl)
    (hbs : attributeBase (.Call (.Name m p) (e :: es) [] cp) f X.env (eval (.Call (.Name m p) (e :: es) [] cp) X.env) = eval (.Call (.Name m p) (e :: es) [] cp) X.env := by rfl) :
    SB C X (.Try [.Return (some (.Attribute (.Call (.Name m p) (e :: es) [] cp) f ap)) p1] [.ExceptHandler (some (.Name n p2)) none [.Return (some (.Constant .none j p3)) p4] p5] [] [] pos :: rest) ρ post := by
  obtain ⟨g, M, F⟩ := Dm.ex
  obtain ⟨pp, gg, h1, h2, h3, h4, Fp⟩ := Df.ex
  refine q_cons (ps_mono (ps_try_only (c := .ref A) (tb := fun W D σ H => ∃ E' : XK, (∀ cls d σ' H', E' cls d H' → W cls d σ' H') ∧ ∃ β H0, Sat C β σ H0 H ρ ∧ ∀ H0' H', Ex H0 H0' → Sat C β σ H0' H' ρ1 → E' (.ref A) none H') (ts := fun _ _ _ D σ H => D.rt .non H) (Wout := fun _ _ _ _ => False) hs hf ⟨hg, hdb, .inl G.mg_⟩ takes0
    (fun W pn xe tk _ => ⟨fun pins s σ H D I ⟨E', hW, β, H0, V, k⟩ => ?_⟩) fun a oe cls d pn _ _ => pss_one (ps_ret pe_non)) fun D σ H ⟨β, H0, V, k⟩ => ?_)
  · have hx : Passes (L2.CX X.prog X.w) (X.tr pn xe) E' := passes_call tk hW
    have hm := StX.pe_makeR (X := X.tr pn xe) (p := p) (pos := cp) M F hr hg2 Dm.mg_ hx (ha pn xe) hdb2 hst hpl
    have hq := SlX.pe_propSl (X := X.tr pn xe) (f := f) (E := E0) (pos := ap) hm Df.cl h1 h2 h3 h4 Fp hrf (fun H s e s' z => by exact z.elim) hbs
    refine (pss_one (ps_ret (pos := p1) hq)).run pins s σ H D I ?_
    refine ⟨β, H0, V, fun vs H1 H1' e1 V1 d1 x dx hx0 hdx ne => ?_⟩
    exact ⟨x, dx, H1, H1', vs, bs, rfl, rfl, hx0, hdx, ne, V1.ex, d1, hR, fun H2 H2' st => k H2 H2' (e1.trans st.e0) (V1.stp st)⟩
  · refine ⟨fun cls _ H' => cls = .ref A ∧ D.rt .non H', fun cls d σ' H' ⟨ec, hd⟩ => ?_, β, H0, V, fun H0' H' g W => ⟨rfl, k.2.1 .non _ hp .non σ H0' H' g W .non⟩⟩
    subst ec
    exact ⟨true, G.ex, fun _ a _ => hd, fun z => nomatch z⟩
end
end Q
end

/-! text LayZ -/
section
set_option Elab.async false
set_option linter.all false
set_option maxRecDepth 100000
set_option maxHeartbeats 2000000
/-! list(o), o an instance whose own __iter__ answers iter(a tuple) -/
namespace Q
open PySem PySem.Spec PyProof.Rows L2
section
variable {prog : Program} {w : World} {A : Around} {E : Value → Shared → Prop} {s : Shared}
/-- the end of a tuple's iterator: it is there still -/
theorem tup_end {a b : Addr} {n : Nat} {xs : Array Value} {Q : Option Value → Shared → Prop} (free : A.handled = none) (hit : IsTupIter s.heap a b n) (ht : IsTup s.heap b xs) (no : xs[n]? = none)
    (k : ∀ h', Heap.ExtBut a s.heap h' → (∃ o, h'.get? a = some o) → Q none { s with heap := h' }) : wpAny (model prog w) A (pyNext (.ref a)) Q E s := by
  obtain ⟨ob, at_, cl, dt⟩ := id hit
  obtain ⟨ot, att, _, nl, dtt⟩ := ht
  unfold pyNext
  refine wpAny_bind (wpAny_attempt (wpAny_callSpecial?_slot (name := Str.ofString "__next__") hit.typeIs slot_tupleiter_next (wpAny_call_entry slot_tupleiter_next hit.typeIs entry_tupleiter_next ?_ (args_tupleiter_next _))))
  show wpAny _ _ (field (.ref a) 0 >>= _) _ _ s
  refine wpAny_bind (wpAny_field at_ dt (x := .ref b) rfl ?_)
  show wpAny _ _ (if (Value.ref b == Value.none) = true then _ else _) _ _ s
  rw [if_neg (by exact Bool.false_ne_true)]
  show wpAny _ _ (field (.ref a) 1 >>= _) _ _ s
  refine wpAny_bind (wpAny_field at_ dt (x := .int n 0) rfl ?_)
  show wpAny _ _ (seqItems? (.ref b) >>= _) _ _ s
  refine wpAny_bind (wpAny_seqItems att dtt ?_)
  simp only [Int.toNat_natCast, no]
  refine wpAny_bind (wpAny_rule (wpAny_bind (wpAny_setField at_ dt (by simp) ?_)))
  show wpAny _ _ (newExc (.type "StopIteration") [] >>= _) _ _ _
  refine wpAny_bind ?_
  simp only [newExc, newTuple]
  refine wpAny_bind (wpAny_newObj_type ?_ (by size_fits))
  refine wpAny_bind (m := firstArgMember _ _) (wpAny_of_eq (a := Value.none) (by first | rfl | (simp only [firstArgMember]; rfl)) ?_)
  refine wpAny_newObj_type ?_ (by size_fits)
  simp only [raiseNew]
  refine wpAny_bind (wpAny_handled ?_)
  first | rw [show A.in1.handled = none from free] | rw [free]
  refine wpAny_bind (wpAny_pure (wpAny_throw ?_))
  refine wpAny_bind (wpAny_isInstance (T := "StopIteration") (b := true) ⟨_, Heap.get?_push_size _ rfl, rfl⟩ isSubtype_stop ?_)
  exact wpAny_pure (k _ (((Heap.SameBut.update ..).extBut.push _).push _) ⟨_, Heap.get?_push_of_some _ (Heap.get?_push_of_some _ (Heap.get?_update_self _ at_ (Obj.isFreed_of_fields (Obj.data_mapFields dt _))))⟩)
end
/-- a tuple's iterator at its start -/
def TitO (it t : Addr) : HO := .ext fun h => IsTupIter h it t 0
/-- an object that is there -/
def AnyO (it : Addr) : HO := .ext fun h => ∃ o, h.get? it = some o
section
variable {X : Cx} {pins : List (Addr × Obj)} {σ : L2.St} {H : Hp} {s : Shared}
theorem call_iterT : CallR X (.builtin "iter") (fun xs H Q => ∃ (t : Addr) (ws : List V), xs = [.ref t] ∧ SqT X.K H t ws ∧ ∀ it, H it = none → Q (.ref it) (upd H it (TitO it t))) := by
  intro pins s σ H xs us Q I rv h
  obtain ⟨t, ws, rfl, hs, q⟩ := h
  obtain ⟨u, rfl, ru⟩ := rv.one
  cases (show u = Value.ref t from ru)
  obtain ⟨its, r, ht, _⟩ := I.tuple hs
  refine Calls.call_function_entry (by decide +kernel) (by decide +kernel) PySem.W.kdk_entry_iter (PySem.W.kdk_args_iter _) ?_
  unfold Builtin.«iter»
  refine wpAny_bind (m := someArgs "iter" 1 2 _) (wpAny_of_eq (a := [Value.ref t]) (by first | rfl | kernel_rfl!) ?_)
  show wpAny _ _ (pyIter (.ref t) >>= _) _ _ _
  refine wpAny_bind (iter_tuple ht ?_)
  have fr : H s.heap.objs.size = none := I.hok.fresh (Nat.le_refl _)
  have at_ : (s.heap.push { cls := .type "tuple_iterator", data := .fields #[.ref t, .int 0 0] }).get? s.heap.objs.size = some { cls := .type "tuple_iterator", data := .fields #[.ref t, .int 0 0] } := Heap.get?_push_size _ rfl
  exact wpAny_pure ⟨_, rfl, .ref s.heap.objs.size, upd H s.heap.objs.size (TitO s.heap.objs.size t), I.laid (t' := s.toks) (fun _ _ e => Heap.get?_push_of_some _ e) (Nat.le_refl _) ⟨⟨_, at_, rfl, rfl⟩, ⟨_, at_⟩, fun h1 h2 ⟨o, h, c, d⟩ k => ⟨o, k _ h, c, d⟩⟩, rfl, q _ fr⟩
/-- an object that is tracked is looked at otherwise, and may have changed -/
theorem inv_any {it : Addr} {φ : Heap → Prop} {h' : Heap} (I : Inv X pins σ H s) (h : H it = some (.ext φ)) (k : Heap.ExtBut it s.heap h') (e : ∃ o, h'.get? it = some o) : Inv X pins σ (upd H it (AnyO it)) { s with heap := h' } := by
  have kp : ∀ b o, b ≠ it → s.heap.get? b = some o → h'.get? b = some o := fun b o n q => k b o n q
  have old : ∀ b u, H b = some u → (∀ ψ, u ≠ .ext ψ) → upd H it (AnyO it) b = some u := fun b u q n => by
    rw [upd_ne (fun z => by rw [z, h] at q; exact n φ (Option.some.inj q).symm)]
    exact q
  have nit : ∀ b, H b = none → b ≠ it := fun b q z => by rw [z, h] at q; cases q
  refine I.step (g' := s.gens) (d' := s.drawn) (t' := s.toks) (ch := []) (fun b hb => absurd hb (by simp)) (fun b o _ _ _ q n => kp b o (nit b n) q) (fun b o _ _ _ q n => ⟨o.slots, kp b o (nit b n) q⟩) (fun b o _ q n => by rw [upd_ne (nit b n)]; exact n) (fun b o _ q => ?_)
    (fun b xs q => old b _ q fun _ z => nomatch z) (fun b o u q => old b _ q fun _ z => nomatch z) (fun b ps q => ⟨#[], by rw [old b _ q fun _ z => nomatch z]; simp⟩) (fun m ⟨o, es, ep, ho, r⟩ => ⟨o, es, ep, kp _ _ (nit _ I.free) ho, r⟩) (fun b u q => ?_) I.bare
  · by_cases z : b = it
    · rw [z]; exact e
    · exact ⟨o, kp b o z q⟩
  · by_cases z : b = it
    · subst z
      rw [upd_same] at q
      cases q
      exact ⟨e, e, fun h1 h2 ⟨o, ho⟩ st => ⟨o, st _ ho⟩⟩
    · rw [upd_ne z] at q
      exact (I.hok b u q).stay (fun d v hd q2 => kp d v (fun zz => by
        rcases hd with hd | hd
        · exact z (hd.symm.trans zz)
        · rw [zz, h] at hd
          cases hd) q2) (fun d hd => old d _ hd fun _ z => nomatch z) (fun d xs hd => old d _ hd fun _ z => nomatch z)
theorem any_self {it : Addr} (h : H it = some (AnyO it)) : upd H it (AnyO it) = H := by
  funext b
  by_cases z : b = it
  · rw [z, upd_same, h]
  · rw [upd_ne z]
theorem tit_loop {A1 : Around} {q it t : Addr} {ws : List V} {Rs : Result → Shared → Prop} (hA : A1.in1.handled = none) (hz : ws.length ≤ sizeLine) : ∀ (n i : Nat) (H : Hp) (s : Shared), Inv X pins σ H s → H it = some (AnyO it) → IsTupIter s.heap it t i → H t = some (.tup ws) → H q = some (.lst (ws.take i)) → i + n = ws.length →
    (∀ H' s', Inv X pins σ H' s' → (∀ b, b ≠ q → H' b = H b) → H' q = some (.lst ws) → Rs (.ok (.ret .none)) s') → codeAny (model X.prog X.w) A1 (.builtin "list.extend.loop" ⟨[.ref q, .ref it, .none], []⟩) Rs s := by
  intro n
  induction n with
  | zero =>
    intro i H s I hit hI ht hq hn done
    obtain ⟨its, r, tt, _⟩ := I.tuple (a := t) (xs := ws) (.inl (.inl ht))
    have hl : its.length = ws.length := r.length.symm
    refine codeAny_builtin PySem.F.entry_extend_loop ?_
    rw [Around.under_plainId PySem.F.plain_extend_loop _]
    show wpAny _ A1.in1 (pyNext (.ref it) >>= _) _ _ s
    refine wpAny_bind (tup_end hA hI tt (by rw [List.getElem?_toArray, List.getElem?_eq_none]; omega) fun h' ex there => ?_)
    have I2 := inv_any I hit ex there
    rw [any_self hit] at I2
    exact wpAny_pure (done H _ I2 (fun _ _ => rfl) (by rw [hq, List.take_of_length_le (by omega)]))
  | succ n ih =>
    intro i H s I hit hI ht hq hn done
    obtain ⟨its, r, tt, _⟩ := I.tuple (a := t) (xs := ws) (.inl (.inl ht))
    have hl : its.length = ws.length := r.length.symm
    have hi : i < ws.length := by omega
    obtain ⟨u, hu, ru⟩ := r.get (List.getElem?_eq_getElem hi)
    have nq : it ≠ q := fun z => by
      rw [z, hq] at hit
      unfold AnyO at hit
      cases hit
    have nt : t ≠ q := fun z => by rw [z, hq] at ht; cases ht
    refine codeAny_builtin PySem.F.entry_extend_loop ?_
    rw [Around.under_plainId PySem.F.plain_extend_loop _]
    show wpAny _ A1.in1 (pyNext (.ref it) >>= _) _ _ s
    refine wpAny_bind (next_tuple_item hI tt (x := u) (by rw [List.getElem?_toArray]; exact hu) fun h' hI2 same => ?_)
    obtain ⟨oi, hoi, ri⟩ := id hI2
    have I2 := inv_any I hit same.extBut ⟨oi, hoi⟩
    rw [any_self hit] at I2
    show wpAny _ A1.in1 (updateSeq q (·.push u) >>= _) _ _ _
    obtain ⟨z, its2, k, r2, hl2, e⟩ := I2.lstM hq
    have htk : ws.take (i + 1) = ws.take i ++ [ws[i]] := by rw [List.take_succ, List.getElem?_eq_getElem hi]; rfl
    have lt : its2.length = i := by rw [← hl2, List.length_take]; omega
    refine wpAny_bind (wpAny_updateSeq e rfl (wpAny_pure ⟨plainId_quiet PySem.F.plain_extend_loop _, ?_⟩) (by rw [List.size_toArray]; omega) (by show (its2.toArray.push u).size ≤ sizeLine + 1; rw [Array.size_push, List.size_toArray]; omega))
    have I3 := I2.lset (ys := ws.take (i + 1)) (its' := its2 ++ [u]) (f := (·.push u)) (t' := s.toks) hq e (by simp) (by rw [htk]; exact r2.append (.cons ru .nil)) (by rw [List.length_take]; omega)
    refine ih (i + 1) _ _ I3 (by rw [upd_ne nq]; exact hit) ⟨oi, (Heap.get?_update_other h' _ (Ne.symm nq)).trans hoi, ri⟩ (by rw [upd_ne nt]; exact ht) upd_same (by omega) fun H' s' J oth fin => done H' s' J (fun b hb => (oth b hb).trans (upd_ne hb)) fin
/-- what an own __iter__ promises: an iterator at the start of a tuple -/
def spIt (C : Ct) (R : List B → List B → Prop) : Sp := fun vs H Q _ => ∃ H0 bs ws, Ex H0 H ∧ DenAll C H0 vs bs ∧ R bs ws ∧ ∀ it t us H0' H', Stp H0 H H0' H' → H0' it = none → H' it = some (TitO it t) → H it = none → H0' t = some (.tup us) → DenAll C H0' us ws → Q (.ref it) H'
theorem hint_len {M : Model} {A : Around} {E : Value → Shared → Prop} {s : Shared} {Q : Bool → Shared → Prop} {K : PySem.W.Frag} {ox : Obj} {od : Option Obj} {a D g : Addr} {n : Int} (hl : PySem.W.findIn K (.ref D) "__len__" = some (some (.ref g))) (hK : K.In s.heap) (J : PySem.W.InstAt s.heap a ox D od)
    (h0 : 0 ≤ n) (hz : n ≤ 1000) (h : wpAny M A (call (.builtin "len") [.ref a]) (fun v s' => ∃ t, v = .int n t ∧ Q (n != 0) s') (fun _ _ => False) s) :
    wpAny M A (Builtin.List.listLengthHint (.ref a)) Q E s := by
  unfold Builtin.List.listLengthHint
  refine wpAny_bind (wpAny_bind (J.type.here ((PySem.W.looks_findIn hK hl).here ?_)))
  refine PySem.W.KFB.if_not rfl ?_
  refine PySem.W.KFB.if_so rfl ?_
  refine wpAny_bind (wpAny_rule ?_)
  refine wpAny_bind (wpAny_attempt (wpAny_mono h (fun v s' hv => ?_) (fun _ _ z => z.elim)))
  obtain ⟨t, rfl, q⟩ := hv
  refine wpAny_bind (wpAny_pure ?_)
  refine PySem.W.KFB.if_not (notLongL (by rw [sizeLine_eq]; omega)) ?_
  exact wpAny_pure q
/-- list(o) -/
def rListO (C : Ct) (D : Addr) (R : List B → List B → Prop) (RL : List B → B → Prop) : List V → Hp → VK → Prop := fun xs H Q => ∃ (a dx : Addr) (us : List (Option V)) (H0 : Hp) (b : B) (ws : List B), xs = [V.ref a] ∧ SlX.Slt H a D dx us ∧ Ex H0 H ∧ Den C H0 (.ref a) b ∧ R [b] ws ∧ RL [b] (.int (ws.length : Int)) ∧ ws.length ≤ 1000 ∧
  ∀ q vs H0' H', Stp H0 H H0' H' → H q = none → H0' q = none → H' q = some (.lst vs) → DenAll C H0' vs ws → Q (.ref q) H'
theorem call_listO {C : Ct} {D gi gl : Addr} {n : Nat} {R : List B → List B → Prop} {RL : List B → B → Prop} (hc : X.calm = true) (h1 : PySem.W.findIn X.K (.ref D) "__iter__" = some (some (.ref gi))) (h2 : PySem.W.isFn X.K (.ref gi) = true) (FI : FnR X.prog X.w X.K X.mg X.base CX0 n gi (spIt C R))
    (h3 : PySem.W.findIn X.K (.ref D) "__len__" = some (some (.ref gl))) (h4 : PySem.W.isFn X.K (.ref gl) = true) (FL : FnR X.prog X.w X.K X.mg X.base CX0 n gl (spR C RL)) (hr : Room (n + 3) X.A) : CallR X (.type "list") (rListO C D R RL) := by
  intro pins s σ H xs us Q I rv h
  obtain ⟨a, dx, us0, H0, b, ws, rfl, hsl, ex, db, hR, hRL, hlen, q⟩ := h
  obtain ⟨u, rfl, ru⟩ := rv.one
  cases (show u = Value.ref a from ru)
  have sb : Sub X n X.A.in1.in1 := (Sub.in1 (Sub.in1 (⟨hr.mono (by omega), rfl⟩ : Sub X (n + 2) X.A)))
  have sb3 : Sub X n X.A.in1.in1.in1 := (Sub.in1 (Sub.in1 (Sub.in1 (⟨hr, rfl⟩ : Sub X (n + 3) X.A))))
  refine callType_codes (Q₁ := fun obj s₁ => obj = .ref s.heap.objs.size ∧ s₁ = { s with heap := s.heap.push { cls := .type "list", data := .seq #[] } }) PySem.F.called_list (PySem.F.typeCall_list_1 _) PySem.F.entry_list_init (code_list_new _ ⟨rfl, rfl⟩) fun obj s₁ h₁ => ?_
  obtain ⟨rfl, rfl⟩ := h₁
  have hS : (s.heap.push { cls := .type "list", data := .seq #[] }).get? s.heap.objs.size = some { cls := .type "list", data := .seq #[] } := Heap.get?_push_size _ rfl
  refine ⟨⟨_, hS, rfl⟩, PySem.F.args_list_init_2 _ _, ?_⟩
  have fr : H s.heap.objs.size = none := I.hok.fresh (Nat.le_refl _)
  obtain ⟨p, hp⟩ : ∃ p, p = s.heap.objs.size := ⟨_, rfl⟩
  rw [← hp] at fr
  have I1 : Inv X pins σ (upd H s.heap.objs.size (.lst [])) { s with heap := s.heap.push { cls := .type "list", data := .seq #[] } } := I.lnew (its := []) (t' := s.toks) .nil (Nat.zero_le _)
  rw [← hp] at I1 hS
  rw [← hp]
  show wpAny _ _ (do let old ← Builtin.List.listItems (.ref p); Builtin.List.listUpdate (.ref p) (fun _ => #[]); letGo old.toList.reverse; Builtin.List.listExtendWith (.ref p) (.ref a) .none) _ _ _
  refine wpAny_bind ?_
  unfold Builtin.List.listItems
  refine wpAny_bind (wpAny_seqItems hS rfl (wpAny_pure ?_))
  show wpAny _ _ (updateSeq p (fun _ => #[]) >>= fun _ => letGo (#[] : Array Value).toList.reverse >>= fun _ => Builtin.List.listExtendWith (.ref p) (.ref a) .none) _ _ _
  refine wpAny_bind (wpAny_updateSeq hS rfl ?_)
  have I2 := I1.lset (f := fun _ => #[]) (its := []) (its' := []) (ys := []) (t' := s.toks) upd_same hS rfl .nil (Nat.zero_le _)
  rw [upd_upd] at I2
  refine wpAny_bind (wpAny_letGo ?_)
  have st1 : Stp H0 H H0 (upd H p (.lst [])) := Stp.garb ex fr
  have hsl1 : SlX.Slt (upd H p (.lst [])) a D dx us0 := by
    rcases hsl with ⟨z, e⟩ | ⟨z1, z2⟩
    · exact .inl ⟨by rw [upd_ne (fun y => by rw [y, fr] at z; cases z)]; exact z, e⟩
    · exact .inr ⟨by rw [upd_ne (fun y => by rw [y, fr] at z1; cases z1)]; exact z1, by rw [upd_ne (fun y => by rw [y, fr] at z2; cases z2)]; exact z2⟩
  have nea : p ≠ a := fun z => by
    rcases hsl with ⟨y, _⟩ | ⟨y, _⟩ <;> (rw [← z, fr] at y; cases y)
  obtain ⟨sl, od, _, J, _⟩ := SlX.slt_inst I2 hsl1
  obtain ⟨m, hF⟩ := I2.fr
  unfold Builtin.List.listExtendWith
  refine wpAny_bind (J.type.here ?_)
  have e1 : Builtin.List.listSameRef (.ref p) (.ref a) = false := by simp [Builtin.List.listSameRef, nea]
  have e2 : (Value.ref D == Value.type "list") = false := rfl
  have e3 : (Value.ref D == Value.type "tuple") = false := rfl
  simp only [e1, e2, e3, Bool.or_false, Bool.false_eq_true, if_false]
  refine wpAny_bind (PySem.W.owit_iter hF I.ok.mod.kin J h1 h2 ?_)
  refine wpAny_call (codeAny_mono (FI X.A.in1.in1 X.stack _ _ [.ref a] [.ref a] (fun v H' => ∃ it t vs H0', v = .ref it ∧ Stp H0 (upd H p (.lst [])) H0' H' ∧ H0' it = none ∧ H' it = some (TitO it t) ∧ upd H p (.lst []) it = none ∧ H0' t = some (.tup vs) ∧ DenAll C H0' vs ws) E0 sb.room I2.env0.in1.in1 (.cons rfl .nil)
    ⟨H0, [b], ws, st1.e1, .cons db .nil, hR, fun it t vs H0' H' st z1 z2 z3 z4 z5 => ⟨it, t, vs, H0', rfl, st, z1, z2, z3, z4, z5⟩⟩) fun r s' hq => ?_)
  cases r with
  | error e => exact False.elim hq
  | ok fl =>
    cases fl with
    | next => exact False.elim hq
    | brk => exact False.elim hq
    | cont => exact False.elim hq
    | ret u =>
      obtain ⟨v, H3, I3, rv3, it, t, vs, H0', rfl, st2, z1, z2, z3, z4, z5⟩ := I2.after hq
      cases (show u = Value.ref it from rv3)
      have hI0 : IsTupIter s'.heap it t 0 := (I3.hok it _ z2).1
      refine wpAny_specialOf hI0.typeIs slot_tupleiter_next.lookup ?_
      have H3p : H3 p = some (.lst []) ∧ H0' p = none := by
        have := st2.out p (by rw [upd_same]; exact fun z => nomatch z) (none_of_ex ex fr)
        exact ⟨by rw [this.2, upd_same], this.1⟩
      have db3 : Den C H0' (.ref a) b := db.mono st2.e0
      have ex3 : Ex H0' H3 := st2.e1
      have hsl3 : SlX.Slt H3 a D dx us0 := by
        have E12 := Stp.ex st1.e1 st2
        rcases hsl1 with ⟨z, e⟩ | ⟨y1, y2⟩
        · exact .inl ⟨E12 _ _ z, e⟩
        · exact .inr ⟨E12 _ _ y1, E12 _ _ y2⟩
      obtain ⟨sl3, od3, _, J3, _⟩ := SlX.slt_inst I3 hsl3
      obtain ⟨m3, hF3⟩ := I3.fr
      refine wpAny_bind (wpAny_holding (hint_len h3 I3.kIn J3 (n := (ws.length : Int)) (by omega) (by omega) ?_))
      refine PySem.W.len_K hF3 I.ok.mod.kin J3 h3 h4 (wpAny_call (codeAny_mono (FL X.A.in1.in1.in1 X.stack s' H3 [.ref a] [.ref a] (fun v H' => v = .int (ws.length : Int) ∧ ∃ H0'', Stp H0' H3 H0'' H') E0 sb3.room I3.env0.in1.in1.in1 (.cons rfl .nil)
        ⟨H0', [b], .int (ws.length : Int), ex3, .cons db3 .nil, hRL, fun v H0'' H' st d => by cases d; exact ⟨rfl, H0'', st⟩⟩) fun r s4 hq4 => ?_))
      cases r with
      | error e => exact False.elim hq4
      | ok fl =>
        cases fl with
        | next => exact False.elim hq4
        | brk => exact False.elim hq4
        | cont => exact False.elim hq4
        | ret u4 =>
          obtain ⟨v4, H4, I4, rv4, rfl, H0'', st3⟩ := I3.after hq4
          obtain ⟨t4, rfl⟩ := (show ∃ t, u4 = Value.int (ws.length : Int) t from rv4)
          refine ⟨⟨by omega, by omega⟩, _, rfl, ?_⟩
          have H4p := st3.out p (by rw [H3p.1]; exact fun z => nomatch z) H3p.2
          have H4i := st3.out it (by rw [z2]; exact fun z => nomatch z) z1
          have hq5 : H4 p = some (.lst []) := by rw [H4p.2, H3p.1]
          have hit4 : H4 it = some (TitO it t) := by rw [H4i.2, z2]
          have nip : it ≠ p := fun z => by rw [z, upd_same] at z3; cases z3
          have I4t : Inv X pins σ H4 { s4 with toks := s4.toks + 1 } := I4.tok _
          have vs_len : vs.length = ws.length := z5.len
          have H4t : H4 t = some (.tup vs) := Stp.ex ex3 st3 _ _ (ex3 _ _ z4)
          have hIt : IsTupIter s4.heap it t 0 := (I4.hok it _ hit4).1
          obtain ⟨oi, hoi, ri⟩ := id hIt
          -- the loop, from any state with these facts
          have run : ∀ s5 : Shared, Inv X pins σ H4 s5 → codeAny (model X.prog X.w) X.A.in1 (.builtin "list.extend.loop" ⟨[.ref p, .ref it, .none], []⟩) (wants (fun r s₂ => r = .none ∧ EP X pins σ Q (.ref p) s₂) X.xe) s5 := fun s5 I5 => by
            have hI5 : IsTupIter s5.heap it t 0 := (I5.hok it _ hit4).1
            obtain ⟨o5, ho5, _⟩ := id hI5
            have I6 := inv_any (h' := s5.heap) I5 hit4 (fun b o _ e => e) ⟨o5, ho5⟩
            refine tit_loop (X := X) (pins := pins) (σ := σ) (ws := vs) (show X.A.in1.in1.handled = none from I.ok.hd hc) (by rw [vs_len, sizeLine_eq]; omega) vs.length 0 _ _ I6 upd_same hI5 (by rw [upd_ne (fun z => by rw [z] at H4t; rw [hit4] at H4t; unfold TitO at H4t; cases H4t)]; exact H4t) (by rw [upd_ne nip.symm]; exact hq5) (by omega) fun H7 s7 I7 oth fin => ⟨rfl, .ref p, H7, I7, rfl, ?_⟩
            refine q p vs H0'' H7 ⟨st2.e0.trans st3.e0, fun y o e => ?_, fun y y1 y2 => ?_⟩ fr H4p.1 fin (z5.mono st3.e0)
            · have n1 : y ≠ p := fun z => by rw [z, H4p.1] at e; cases e
              have n2 : y ≠ it := fun z => by rw [z, H4i.1] at e; cases e
              rw [oth y n1, upd_ne n2]
              exact st3.e1 y o e
            · have n1 : y ≠ p := fun z => y1 (by rw [z]; exact fr)
              have n2 : y ≠ it := fun z => y1 (by rw [z]; rw [upd_ne nip] at z3; exact z3)
              have a1 := st2.out y (by rw [upd_ne n1]; exact y1) y2
              have a2 := st3.out y (by rw [a1.2, upd_ne n1]; exact y1) a1.1
              refine ⟨a2.1, ?_⟩
              rw [oth y n1, upd_ne n2, a2.2, a1.2, upd_ne n1]
          obtain ⟨z6, its6, k6, r6, hl6, e6⟩ := I4t.lstM hq5
          cases r6
          refine wpAny_ite_split (fun _ => ?_) (fun _ => wpAny_pure ⟨plainId_quiet PySem.F.plain_extend_loop _, run _ I4t⟩)
          refine wpAny_bind (wpAny_rule ?_)
          refine wpAny_bind ?_
          show wpAny _ _ (updateSeq p (·.push .none) >>= fun _ => updateSeq p (·.pop)) _ _ _
          refine wpAny_bind (wpAny_updateSeq e6 rfl ?_)
          have I7 := I4t.lset (f := (·.push Value.none)) (its' := [Value.none]) (ys := [.non]) (t' := s4.toks + 1) hq5 e6 (by simp) (.cons rfl .nil) (by rw [List.length_singleton, sizeLine_eq]; decide)
          obtain ⟨z8, its8, k8, r8, hl8, e8⟩ := I7.lstM upd_same
          obtain ⟨u8, rfl, ru8⟩ := r8.one
          refine wpAny_updateSeq e8 rfl ?_ (by show 1 ≤ sizeLine; rw [sizeLine_eq]; decide) (by show 0 ≤ sizeLine + 1; exact Nat.zero_le _)
          refine wpAny_pure ⟨plainId_quiet PySem.F.plain_extend_loop _, run _ ?_⟩
          have I9 := I7.lset (f := (·.pop)) (its := [u8]) (its' := []) (ys := []) (t' := s4.toks + 1) upd_same e8 (by rfl) .nil (Nat.zero_le _)
          rw [upd_upd] at I9
          have hH : upd H4 p (.lst []) = H4 := by
            funext y
            by_cases hb : y = p
            · rw [hb, upd_same, hq5]
            · rw [upd_ne hb]
          rw [hH] at I9
          exact I9
/-- list(e), e an instance of the class c -/
theorem f_listO {C : Ct} {ρ ρ1 : List Sl} {e : Expr} {c n : Nat} {fs ws : List B} {p pos : Pos} {R : List B → List B → Prop} {RL : List B → B → Prop} (hc : X.calm = true) (hm : X.mg "list" = none) (ha : EB C X e ρ (.ob c fs) ρ1) (DI : Ow X C c "__iter__" n (spIt C R)) (DL : Ow X C c "__len__" n (spR C RL)) (hr : Room (n + 3) X.A)
    (hR : R [.ob c fs] ws) (hRL : RL [.ob c fs] (.int (ws.length : Int))) (hl : ws.length ≤ 1000) (hg : Gl X "list" := by rfl) (hs : starEach [e] X.env = [(false, eval e X.env)] := by rfl) : FB C X (.Call (.Name "list" p) [e] [] pos) ρ (.lst ws) ρ1 := by
  obtain ⟨g1, a1, a2, F1⟩ := DI.ex
  obtain ⟨g2, b1, b2, F2⟩ := DL.ex
  exact pe_mono (pe_callTy (call_listO hc a1 a2 F1 b1 b2 F2 hr) hg hm (by decide +kernel) (a_cons ha a_nil hs) (by decide) (by decide) hs rfl) fun σ H Q ⟨β, H0, V, k⟩ => ⟨β, H0, V, fun vs H1 H1' e1 V1 d => by
    obtain ⟨v, rfl, dv⟩ := one_den d
    obtain ⟨a, dx, us, rfl, hsl⟩ := den_ob dv V1.ex
    refine ⟨a, dx, us, H1, _, ws, rfl, hsl, V1.ex, dv, hR, hRL, hl, fun q vs H0' H' st fr f0 at_ dd => ?_⟩
    obtain ⟨f1, f2, f3⟩ := V1.fresh fr
    exact k q H0' H' (e1.trans st.e0) (V1.stp st) f0 ⟨vs, at_, dd⟩ f2 f3⟩
end
section
variable {P : Program} {w : World} {K : PySem.W.Frag} {mg : Str → Option Value} {base : Heap} {C : Ct}
/-- def __iter__(self): return iter(e), e a tuple -/
theorem iter_ok {x qual : Str} {st : Stmt} {f : Addr} {fd : FuncData} {N : List Str} {k : Nat} {R : List B → List B → Prop} {e : Expr} {p1 p2 p3 : Pos} (F : Fun K x qual st f fd) (S : FnScope N ["self"] (defScope st)) (hb : Binds K fd ["self"] []) (len : ∀ bs r, R bs r → bs.length = 1) (hbd : defBody st = [.Return (some (.Call (.Name "iter" p1) [e] [] p2)) p3]) (hm : mg "iter" = none)
    (hbody : ∀ (cdv : Value) (A : Around) (outer : List PySem.Env) (s : Shared) (H : Hp) (E : XK) (bs ws : List B), Room k (A.deeper (envOfC qual (defScope st) s.heap.objs.size f cdv)) → R bs ws →
      EB C (cxOf CX0 P w K mg base N qual (defScope st) f cdv A outer s H E).nox e (slots N.length bs) (.tup ws) (slots N.length bs)) (hg : ∀ (cdv : Value) (A : Around) (outer : List PySem.Env) (s : Shared) (H : Hp) (E : XK), Gl (cxOf CX0 P w K mg base N qual (defScope st) f cdv A outer s H E).nox "iter")
    (hst : ∀ (cdv : Value) (A : Around) (outer : List PySem.Env) (s : Shared) (H : Hp) (E : XK), starEach [e] (cxOf CX0 P w K mg base N qual (defScope st) f cdv A outer s H E).nox.env = [(false, eval e (cxOf CX0 P w K mg base N qual (defScope st) f cdv A outer s H E).nox.env)]) : FnR P w K mg base CX0 (k + 1) f (spIt C R) := by
  have hpl : 1 ≤ N.length := by
    have h := S.pre
    cases N with
    | nil => cases h
    | cons a b => simp
  have G : FnOk P w K mg base CX0 (k + 1) f fd ["self"] (spIt C R) := by
    refine F.ok S (fun vs H Q E h => ?_) (fun cdv A outer s H vs Q E hr h => ?_)
    · obtain ⟨H0, bs, r, _, d, hR, _⟩ := h
      rw [d.len]
      exact len bs r hR
    · obtain ⟨H0, bs, ws, e0, d, hR, q⟩ := h
      rw [hbd]
      have hst' := hst cdv A outer s H E
      refine ⟨_, pss_one (ps_ret (pe_callB call_iterT (hg cdv A outer s H E) hm (by decide +kernel) (a_cons (hbody cdv A outer s H E bs ws hr hR) a_nil hst') (by decide) (by decide) hst' rfl)), ?_⟩
      refine ⟨⟨H0, H, fun _ => False, []⟩, H0, sat_start e0 d (by rw [len bs ws hR]; exact hpl), fun vs1 H1 H1' e1 V1 d1 => ?_⟩
      obtain ⟨v, rfl, dv⟩ := one_den d1
      cases dv with
      | @tup t us bs2 ht du =>
        refine ⟨t, us, rfl, .inl (.inl (V1.ex _ _ ht)), fun it hit => ?_⟩
        have st := Stp.garb (o := TitO it t) V1.ex hit
        have hH : H it = none := (V1.fresh hit).2.1
        refine q it t us H1 _ ⟨e1, st.e1, fun a h1 h2 => ?_⟩ (none_of_ex V1.ex hit) upd_same hH ht du
        obtain ⟨r1, r2⟩ := V1.out a h1 h2 (fun z => z)
        exact ⟨r1, by rw [upd_ne (fun z => h1 (by rw [z]; exact hH))]; exact r2⟩
  have z := G.raw hb .nil
  simp only [List.append_nil] at z
  exact z
end
end Q
end

/-! text MA -/
section
set_option Elab.async false
set_option linter.all false
/-! sums of multiples of rows: plain mathematics, no program in sight -/
namespace Q
abbrev Ve := Nat → Int
/-- the sums of multiples of the members of S -/
inductive Sp (S : Ve → Prop) : Ve → Prop
  | zero {w : Ve} : (∀ i, w i = 0) → Sp S w
  | step {u v w : Ve} (c : Int) : S u → Sp S v → (∀ i, w i = c * u i + v i) → Sp S w
theorem Sp.ext {S : Ve → Prop} {v w : Ve} (h : Sp S v) (e : ∀ i, w i = v i) : Sp S w := by
  rw [show w = v from funext e]
  exact h
theorem Sp.mem {S : Ve → Prop} {u : Ve} (h : S u) : Sp S u := .step 1 h (.zero fun _ => rfl) fun i => by simp
theorem Sp.lin {S : Ve → Prop} {u v w : Ve} (a b : Int) (h1 : Sp S u) (h2 : Sp S v) (e : ∀ i, w i = a * u i + b * v i) : Sp S w := by
  have base : ∀ {v : Ve}, Sp S v → ∀ {w : Ve}, (∀ i, w i = b * v i) → Sp S w := by
    intro v h
    induction h with
    | zero hz => intro w e; exact .zero fun i => by rw [e, hz, Int.mul_zero]
    | @step u v w' c hs _ hw ih =>
      intro w e
      exact .step (b * c) hs (ih (w := fun i => b * v i) fun _ => rfl) fun i => by rw [e, hw, Int.mul_add, Int.mul_assoc]
  induction h1 generalizing w with
  | zero hz => exact base h2 fun i => by rw [e, hz, Int.mul_zero, Int.zero_add]
  | @step u' v' w' c hs _ hw ih =>
    exact .step (a * c) hs (ih (w := fun i => a * v' i + b * v i) fun _ => rfl) fun i => by rw [e, hw, Int.mul_add, Int.mul_assoc, Int.add_assoc]
theorem Sp.sub {S : Ve → Prop} {u v w : Ve} (q : Int) (h1 : Sp S u) (h2 : Sp S v) (e : ∀ i, w i = u i - q * v i) : Sp S w := h1.lin 1 (-q) h2 fun i => by rw [e, Int.one_mul, Int.neg_mul]; rfl
theorem Sp.smul {S : Ve → Prop} {u w : Ve} (a : Int) (h1 : Sp S u) (e : ∀ i, w i = a * u i) : Sp S w := h1.lin a 0 h1 fun i => by rw [e, Int.zero_mul, Int.add_zero]
theorem Sp.mono {S T : Ve → Prop} (h : ∀ u, S u → Sp T u) {v : Ve} (k : Sp S v) : Sp T v := by
  induction k with
  | zero hz => exact .zero hz
  | @step u v w c hs _ hw ih => exact (h u hs).lin c 1 ih fun i => by rw [hw, Int.one_mul]
/-- a property of all members that sums keep -/
theorem Sp.all {S : Ve → Prop} {i : Nat} (h : ∀ u, S u → u i = 0) {v : Ve} (k : Sp S v) : v i = 0 := by
  induction k with
  | zero hz => exact hz i
  | @step u v w c hs _ hw ih => rw [hw, h u hs, ih, Int.mul_zero]; rfl
/-- one member apart -/
theorem Sp.split {S T : Ve → Prop} {f : Ve} (h : ∀ u, S u → u = f ∨ T u) {v : Ve} (k : Sp S v) : ∃ c : Int, ∃ t : Ve, Sp T t ∧ ∀ i, v i = c * f i + t i := by
  induction k with
  | @zero w hz => exact ⟨0, w, .zero hz, fun i => by rw [hz, Int.zero_mul]; rfl⟩
  | @step u v w c hs _ hw ih =>
    obtain ⟨c', t, ht, e⟩ := ih
    rcases h u hs with rfl | hT
    · exact ⟨c + c', t, ht, fun i => by rw [hw, e, Int.add_mul, Int.add_assoc]⟩
    · exact ⟨c', fun i => c * u i + t i, .step c hT ht fun _ => rfl, fun i => by rw [hw, e]; show _ = _ + (_ + _); omega⟩
/-- a row as a vector -/
def vec (r : List Int) : Ve := fun i => r.getD i 0
/-- the sums of multiples of some rows -/
def In (rows : List (List Int)) : Ve → Prop := Sp fun u => ∃ r, r ∈ rows ∧ vec r = u
theorem In.mem {rows : List (List Int)} {r : List Int} (h : r ∈ rows) : In rows (vec r) := Sp.mem ⟨r, h, rfl⟩
theorem In.mono {A B : List (List Int)} (h : ∀ r ∈ A, In B (vec r)) {v : Ve} (k : In A v) : In B v := Sp.mono (fun u ⟨r, hr, e⟩ => e ▸ h r hr) k
theorem In.split {f : List Int} {A B : List (List Int)} (h : ∀ r ∈ A, r = f ∨ r ∈ B) {v : Ve} (k : In A v) : ∃ c : Int, ∃ t : Ve, In B t ∧ ∀ i, v i = c * vec f i + t i :=
  Sp.split (fun u ⟨r, hr, e⟩ => (h r hr).elim (fun z => .inl (by rw [← e, z])) fun z => .inr ⟨r, z, e⟩) k
theorem In.all {A : List (List Int)} {i : Nat} (h : ∀ r ∈ A, vec r i = 0) {v : Ve} (k : In A v) : v i = 0 := Sp.all (fun u ⟨r, hr, e⟩ => e ▸ h r hr) k
/-- the same sums -/
def Eqv (A B : List (List Int)) : Prop := ∀ v, In A v ↔ In B v
theorem Eqv.of {A B : List (List Int)} (h : ∀ r ∈ A, In B (vec r)) (k : ∀ r ∈ B, In A (vec r)) : Eqv A B := fun _ => ⟨In.mono h, In.mono k⟩
theorem Eqv.trans {A B D : List (List Int)} (h : Eqv A B) (k : Eqv B D) : Eqv A D := fun v => (h v).trans (k v)
theorem Eqv.refl (A : List (List Int)) : Eqv A A := fun _ => Iff.rfl
/-- the unit vector -/
def ev (j : Nat) : Ve := fun i => if i = j then 1 else 0

/-! rows in steps -/
/-- f goes down in steps from column a on: zeros ahead of the step, the step is above 0 -/
def Tri (k : Nat) : Nat → List (List Int) → Prop
  | _, [] => True
  | a, f :: r => (f.length = k ∧ (∀ i, i < a → vec f i = 0) ∧ 0 < vec f a) ∧ Tri k (a + 1) r
theorem Tri.low {k : Nat} : ∀ {a : Nat} {fs : List (List Int)}, Tri k a fs → ∀ f ∈ fs, ∀ i, i < a → vec f i = 0
  | _, [], _, _, h, _, _ => by cases h
  | a, g :: r, h, f, hf, i, hi => by
    rcases List.mem_cons.mp hf with rfl | hf
    · exact h.1.2.1 i hi
    · exact h.2.low f hf i (by omega)
theorem Tri.len {k : Nat} : ∀ {a : Nat} {fs : List (List Int)}, Tri k a fs → ∀ f ∈ fs, f.length = k
  | _, [], _, _, h => by cases h
  | a, g :: r, h, f, hf => by
    rcases List.mem_cons.mp hf with rfl | hf
    · exact h.1.1
    · exact h.2.len f hf
/-- a sum of rows in steps that is 0 up to a column -/
theorem Tri.above {k : Nat} : ∀ {a : Nat} {fs ls : List (List Int)}, Tri k a fs → ∀ {v : Ve}, In (fs ++ ls) v → (∀ l ∈ ls, ∀ i, i < a + fs.length → vec l i = 0) → (∀ i, i < a + fs.length → v i = 0) → In ls v
  | a, [], ls, _, v, h, _, _ => h
  | a, f :: r, ls, T, v, h, hl, hv => by
    obtain ⟨c, t, ht, e⟩ := In.split (f := f) (B := r ++ ls) (fun x hx => List.mem_cons.mp hx) h
    have t0 : t a = 0 := In.all (i := a) (fun x hx => by
      rcases List.mem_append.mp hx with hx | hx
      · exact T.2.low x hx a (by omega)
      · exact hl x hx a (by rw [List.length_cons]; omega)) ht
    have v0 := hv a (by rw [List.length_cons]; omega)
    have c0 : c = 0 := by
      have q := e a
      rw [v0, t0, Int.add_zero] at q
      rcases Int.mul_eq_zero.mp q.symm with z | z
      · exact z
      · have := T.1.2.2
        omega
    have et : ∀ i, v i = t i := fun i => by rw [e, c0, Int.zero_mul, Int.zero_add]
    have rr := Tri.above (fs := r) (ls := ls) T.2 ht (fun l hl' i hi => hl l hl' i (by rw [List.length_cons]; omega)) (fun i hi => by rw [← et]; exact hv i (by rw [List.length_cons]; omega))
    exact rr.ext et
/-- the first place of a sum of rows in steps -/
theorem Tri.head {k a : Nat} {f : List Int} {r : List (List Int)} (T : Tri k a (f :: r)) {v : Ve} (h : In (f :: r) v) : ∃ c : Int, v a = c * vec f a ∧ In r (fun i => v i - c * vec f i) := by
  obtain ⟨c, t, ht, e⟩ := In.split (f := f) (B := r) (fun x hx => List.mem_cons.mp hx) h
  have t0 : t a = 0 := In.all (i := a) (fun x hx => T.2.low x hx a (by omega)) ht
  exact ⟨c, by rw [e, t0, Int.add_zero], ht.ext fun i => by rw [e]; omega⟩
/-- a multiple of a unit vector that is a sum: the step at this place divides it -/
theorem Tri.step {k : Nat} : ∀ {a : Nat} {fs : List (List Int)} {j : Nat} {n : Int}, Tri k a fs → j < fs.length → In fs (fun i => n * ev (a + j) i) → ∃ c : Int, n = c * vec (fs.getD j []) (a + j)
  | a, [], j, n, _, hj, _ => by cases hj
  | a, f :: r, 0, n, T, _, h => by
    obtain ⟨c, e, _⟩ := T.head h
    refine ⟨c, ?_⟩
    simpa [ev] using e
  | a, f :: r, j + 1, n, T, hj, h => by
    obtain ⟨c, e, ht⟩ := T.head h
    have c0 : c = 0 := by
      have : n * ev (a + (j + 1)) a = 0 := by simp [ev]
      rw [this] at e
      rcases Int.mul_eq_zero.mp e.symm with z | z
      · exact z
      · have := T.1.2.2
        omega
    have hj' : j < r.length := by simpa using hj
    obtain ⟨c', q⟩ := Tri.step (j := j) (n := n) T.2 hj' (ht.ext fun i => by rw [c0, Int.zero_mul, Int.sub_zero, show a + 1 + j = a + (j + 1) by omega])
    exact ⟨c', by rw [show a + (j + 1) = a + 1 + j by omega]; simpa using q⟩
end Q
end

/-! text MB -/
section
set_option Elab.async false
set_option linter.all false
/-! the least rows, as the law reckons them: the mirror, what it finds -/
namespace Q
def hd (at_ : Nat) (r : List Int) : Int := r.getD at_ 0
def okRow (size : Nat) (r : List Int) : Bool := decide (r.length = size) && r.all fun e => decide (e.natAbs.log2 < 4194304)
def leH (at_ : Nat) (a b : List Int) : Bool := decide ((hd at_ a).natAbs ≤ (hd at_ b).natAbs)
def lsCond (s : List (List Int) × List (List Int)) : Option Bool := some (decide (1 < s.1.length))
def lsRest (at_ : Nat) (P : List Int) (t : List (List Int)) : List (List Int) := t.map fun r => rlM r ((hd at_ r).fdiv (hd at_ P)) P
def lsW (size at_ : Nat) (s : List (List Int) × List (List Int)) : Option (List (List Int) × List (List Int)) :=
  match s.1.mergeSort (leH at_) with
  | [] => none
  | P :: t => if hd at_ P ≠ 0 ∧ (hd at_ P).natAbs.log2 < 9000 ∧ s.1.all (okRow size) = true ∧ s.1.length ≤ 100 ∧ s.2.length ≤ 100 then
      some (P :: (lsRest at_ P t).filter (fun r => decide (hd at_ r ≠ 0)), s.2 ++ (lsRest at_ P t).filter fun r => decide (hd at_ r = 0) && nzRow r) else none
def lsC (size fuel : Nat) (s : List (List Int) × List (List Int)) (at_ : Nat) : Option (List (List Int) × List (List Int)) :=
  if s.1.all (okRow size) = true ∧ s.1.length ≤ 100 ∧ s.2.length ≤ 100 then
    (wloop lsCond (lsW size at_) fuel (s.1.filter (fun r => decide (hd at_ r ≠ 0)), s.1.filter fun r => decide (hd at_ r = 0))).bind fun w => match w.1 with
      | [] => none
      | P :: _ => some (w.2, s.2 ++ [if 0 < hd at_ P then P else P.map fun e => -e])
  else none
def lsD (size at_ : Nat) (found : List (List Int)) (ahead : Nat) : Option (List (List Int)) :=
  if hd at_ (found.getD at_ []) ≠ 0 ∧ (hd at_ (found.getD at_ [])).natAbs.log2 < 9000 ∧ okRow size (found.getD at_ []) = true ∧ okRow size (found.getD ahead []) = true ∧ found.length = size then
    some (found.set ahead (rlM (found.getD ahead []) ((hd at_ (found.getD ahead [])).fdiv (hd at_ (found.getD at_ []))) (found.getD at_ [])))
  else none
def lsE (size : Nat) (found : List (List Int)) (i : Nat) : Option (List (List Int)) := (List.range (i + 1)).foldlM (lsD size (i + 1)) found
def lsM (size fuel : Nat) (rows : List (List Int)) : Option (List (List Int)) :=
  ((List.range size).foldlM (lsC size fuel) (rows.filter nzRow, [])).bind fun s => (List.range (size - 1)).foldlM (lsE size) s.2

/-! ### whole numbers divided -/
theorem fd_eq (a b : Int) : a.fmod b = a - a.fdiv b * b := by
  have := Int.mul_fdiv_add_fmod a b
  rw [Int.mul_comm] at this
  omega
/-- the rest is less, and has the divisor's sign -/
theorem fm_lt {a b : Int} (hb : b ≠ 0) : (a.fmod b).natAbs < b.natAbs ∧ 0 ≤ a.fmod b * b := by
  by_cases h : 0 < b
  · have h1 := Int.fmod_nonneg_of_pos a h
    have h2 := Int.fmod_lt_of_pos a h
    exact ⟨by omega, Int.mul_nonneg h1 (by omega)⟩
  · have h0 : 0 < -b := by omega
    have h1 := Int.fmod_nonneg_of_pos (-a) h0
    have h2 := Int.fmod_lt_of_pos (-a) h0
    rw [Int.neg_fmod_neg] at h1 h2
    refine ⟨by omega, ?_⟩
    have := Int.mul_nonneg (a := -a.fmod b) (b := -b) (by omega) (by omega)
    rw [Int.neg_mul_neg] at this
    exact this
/-- the quotient, times the divisor -/
theorem fd_le {a b : Int} (hb : b ≠ 0) : (a.fdiv b).natAbs * b.natAbs ≤ a.natAbs + b.natAbs := by
  have e := fd_eq a b
  have l := (fm_lt (a := a) hb).1
  rw [← Int.natAbs_mul]
  omega
/-- both of one sign: the quotient times the divisor is at most the number, the rest is at most its half -/
theorem fd_same {a b : Int} (hb : b ≠ 0) (h : 0 ≤ a * b) : (a.fdiv b).natAbs * b.natAbs ≤ a.natAbs ∧ (b.natAbs ≤ a.natAbs → 2 * (a.fmod b).natAbs ≤ a.natAbs) := by
  have pos : ∀ {a b : Int}, 0 < b → 0 ≤ a → (a.fdiv b).natAbs * b.natAbs ≤ a.natAbs ∧ (b.natAbs ≤ a.natAbs → 2 * (a.fmod b).natAbs ≤ a.natAbs) := by
    intro a b h0 ha
    have e := fd_eq a b
    have h1 := Int.fmod_nonneg_of_pos a h0
    have h2 := Int.fmod_lt_of_pos a h0
    rw [← Int.natAbs_mul]
    have q0 : 0 ≤ a.fdiv b := by
      rw [Int.fdiv_eq_ediv_of_nonneg _ (by omega)]
      exact Int.ediv_nonneg ha (by omega)
    have q1 : 0 ≤ a.fdiv b * b := Int.mul_nonneg q0 (by omega)
    refine ⟨by omega, fun hl => ?_⟩
    have q2 : b ≤ a.fdiv b * b := by
      have : 1 ≤ a.fdiv b := by
        rw [Int.fdiv_eq_ediv_of_nonneg _ (by omega)]
        have := Int.ediv_le_ediv h0 (show b ≤ a by omega)
        rw [Int.ediv_self (by omega)] at this
        exact this
      have := Int.mul_le_mul_of_nonneg_right this (show 0 ≤ b by omega)
      omega
    omega
  by_cases h0 : 0 < b
  · refine pos h0 ?_
    apply Classical.byContradiction
    intro hn
    have := Int.mul_neg_of_neg_of_pos (show a < 0 by omega) h0
    omega
  · have ha : 0 ≤ -a := by
      apply Classical.byContradiction
      intro hn
      have := Int.mul_neg_of_pos_of_neg (show 0 < a by omega) (show b < 0 by omega)
      omega
    have q := pos (a := -a) (b := -b) (by omega) ha
    rw [Int.neg_fdiv_neg, Int.neg_fmod_neg, Int.natAbs_neg, Int.natAbs_neg, Int.natAbs_neg] at q
    exact q

/-! ### a row less a multiple of a row -/
theorem rl_len {a b : List Int} {q : Int} : (rlM a q b).length = min a.length b.length := by
  unfold rlM
  rw [List.length_map, List.length_zip]
theorem rl_at {a b : List Int} {q : Int} (h : a.length = b.length) (i : Nat) : vec (rlM a q b) i = vec a i - q * vec b i := by
  unfold vec rlM
  rw [List.getD_eq_getElem?_getD, List.getD_eq_getElem?_getD, List.getD_eq_getElem?_getD, List.getElem?_map]
  by_cases hi : i < a.length
  · have hi2 : i < b.length := by omega
    rw [List.getElem?_eq_getElem hi, List.getElem?_eq_getElem hi2, List.getElem?_eq_getElem (by rw [List.length_zip]; omega)]
    simp
  · rw [List.getElem?_eq_none (l := a.zip b) (by rw [List.length_zip]; omega), List.getElem?_eq_none (l := a) (by omega), List.getElem?_eq_none (l := b) (by omega)]
    simp
theorem vec_out {k : Nat} {a : List Int} (h : a.length = k) {i : Nat} (hi : k ≤ i) : vec a i = 0 := by
  unfold vec
  rw [List.getD_eq_getElem?_getD, List.getElem?_eq_none (by omega)]
  rfl
theorem neg_at (a : List Int) (i : Nat) : vec (a.map fun e => -e) i = - vec a i := by
  unfold vec
  rw [List.getD_eq_getElem?_getD, List.getD_eq_getElem?_getD, List.getElem?_map]
  by_cases hi : i < a.length
  · rw [List.getElem?_eq_getElem hi]; rfl
  · rw [List.getElem?_eq_none (by omega)]; rfl

/-! ### rows, bounded -/
/-- a row of k numbers, zeros ahead of a column, all at most D -/
structure Rw (k at_ D : Nat) (r : List Int) : Prop where
  len : r.length = k
  low : ∀ i, i < at_ → vec r i = 0
  bd : ∀ i, (vec r i).natAbs ≤ D
theorem Rw.mono {k a a' D D' : Nat} {r : List Int} (h : Rw k a D r) (h1 : a' ≤ a) (h2 : D ≤ D') : Rw k a' D' r := ⟨h.len, fun i hi => h.low i (by omega), fun i => Nat.le_trans (h.bd i) h2⟩
theorem Rw.less {k a D c : Nat} {r P : List Int} {q : Int} (h : Rw k a D r) (hP : Rw k a D P) (hq : q.natAbs ≤ c) : Rw k a (D + c * D) (rlM r q P) where
  len := by rw [rl_len, h.len, hP.len, Nat.min_self]
  low := fun i hi => by rw [rl_at (h.len.trans hP.len.symm), h.low i hi, hP.low i hi, Int.mul_zero]; rfl
  bd := fun i => by
    rw [rl_at (h.len.trans hP.len.symm)]
    have h1 := h.bd i
    have h2 : (q * vec P i).natAbs ≤ c * D := by
      rw [Int.natAbs_mul]
      exact Nat.mul_le_mul hq (hP.bd i)
    omega
theorem Rw.ok {k a D : Nat} {r : List Int} (h : Rw k a D r) (hD : D < 2 ^ 4194304) : okRow k r = true := by
  unfold okRow
  rw [h.len, decide_eq_true rfl, Bool.true_and, List.all_eq_true]
  intro e he
  obtain ⟨i, hi, rfl⟩ := List.getElem_of_mem he
  have b := h.bd i
  unfold vec at b
  rw [List.getD_eq_getElem?_getD, List.getElem?_eq_getElem hi] at b
  have b' : (r[i]).natAbs ≤ D := b
  refine decide_eq_true ?_
  by_cases h0 : (r[i]).natAbs = 0
  · rw [h0]; decide
  · exact (Nat.log2_lt h0).mpr (Nat.lt_of_le_of_lt b' hD)
end Q
end

/-! text MC -/
section
set_option Elab.async false
set_option linter.all false
/-! one column of the law's reckoning -/
namespace Q
theorem max_le (xs : List Int) : ∀ x, (x ≤ xs.foldl max x ∧ ∀ y ∈ xs, y ≤ xs.foldl max x) := by
  induction xs with
  | nil => intro x; exact ⟨by show x ≤ x; omega, fun y hy => by cases hy⟩
  | cons a r ih =>
    intro x
    rw [List.foldl_cons]
    obtain ⟨h1, h2⟩ := ih (max x a)
    refine ⟨by omega, fun y hy => ?_⟩
    rcases List.mem_cons.mp hy with rfl | hy
    · omega
    · exact h2 y hy
theorem min_le (xs : List Int) : ∀ x, (xs.foldl min x ≤ x ∧ ∀ y ∈ xs, xs.foldl min x ≤ y) := by
  induction xs with
  | nil => intro x; exact ⟨by show x ≤ x; omega, fun y hy => by cases hy⟩
  | cons a r ih =>
    intro x
    rw [List.foldl_cons]
    obtain ⟨h1, h2⟩ := ih (min x a)
    refine ⟨by omega, fun y hy => ?_⟩
    rcases List.mem_cons.mp hy with rfl | hy
    · omega
    · exact h2 y hy
theorem nz_zero {r : List Int} (h : nzRow r = false) (i : Nat) : vec r i = 0 := by
  cases r with
  | nil => rfl
  | cons x xs =>
    unfold nzRow at h
    rw [Bool.or_eq_false_iff] at h
    have h1 : xs.foldl max x = 0 := by simpa using h.1
    have h2 : xs.foldl min x = 0 := by simpa using h.2
    have z : ∀ y ∈ x :: xs, y = 0 := fun y hy => by
      obtain ⟨a1, a2⟩ := max_le xs x
      obtain ⟨b1, b2⟩ := min_le xs x
      rcases List.mem_cons.mp hy with rfl | hy
      · omega
      · have := a2 y hy
        have := b2 y hy
        omega
    unfold vec
    rw [List.getD_eq_getElem?_getD]
    cases e : (x :: xs)[i]? with
    | none => rfl
    | some y => exact z y (List.mem_of_getElem? e)
theorem two_filters {α : Type} {p q : α → Bool} : ∀ {l : List α}, (∀ x ∈ l, p x = true → q x = true → False) → (l.filter p).length + (l.filter q).length ≤ l.length
  | [], _ => by simp
  | a :: l, h => by
    have ih := two_filters (l := l) (fun x hx => h x (List.mem_cons_of_mem _ hx))
    have ha := h a (List.mem_cons_self ..)
    rw [List.filter_cons, List.filter_cons, List.length_cons]
    split <;> split <;> (try simp only [List.length_cons]) <;> first | omega | (exact (ha (by assumption) (by assumption)).elim)
theorem filter_lt {α : Type} {p : α → Bool} : ∀ {l : List α} {x : α}, x ∈ l → p x = false → (l.filter p).length < l.length
  | a :: l, x, h, hp => by
    rw [List.filter_cons, List.length_cons]
    have hl : (l.filter p).length ≤ l.length := List.length_filter_le ..
    rcases List.mem_cons.mp h with rfl | h
    · rw [if_neg (by simp [hp])]
      omega
    · have := filter_lt h hp
      split
      · rw [List.length_cons]; omega
      · omega
theorem sorted_by {at_ : Nat} {own t : List (List Int)} {P : List Int} (hs : own.mergeSort (leH at_) = P :: t) : (P :: t).Perm own ∧ ∀ r ∈ t, (hd at_ P).natAbs ≤ (hd at_ r).natAbs := by
  refine ⟨by rw [← hs]; exact List.mergeSort_perm own _, fun r hr => ?_⟩
  have q := List.pairwise_mergeSort (le := leH at_) (fun a b c h1 h2 => by
    unfold leH at *
    have := of_decide_eq_true h1
    have := of_decide_eq_true h2
    exact decide_eq_true (by omega)) (fun a b => by
    unfold leH
    rw [Bool.or_eq_true]
    rcases Nat.le_total (hd at_ a).natAbs (hd at_ b).natAbs with h | h
    · exact .inl (decide_eq_true h)
    · exact .inr (decide_eq_true h)) own
  rw [hs, List.pairwise_cons] at q
  exact of_decide_eq_true (q.1 r hr)
theorem hd_less {k at_ : Nat} {r P : List Int} (h : r.length = k) (hP : P.length = k) : hd at_ (rlM r ((hd at_ r).fdiv (hd at_ P)) P) = (hd at_ r).fmod (hd at_ P) := by
  have := rl_at (q := (hd at_ r).fdiv (hd at_ P)) (h.trans hP.symm) at_
  rw [fd_eq]
  exact this
theorem sign_tr {a b c : Int} (hb : b ≠ 0) (h1 : 0 ≤ a * b) (h2 : 0 ≤ c * b) : 0 ≤ a * c := by
  have key : ∀ {x b : Int}, 0 < b → 0 ≤ x * b → 0 ≤ x := fun {x b} hb h => by
    apply Classical.byContradiction
    intro hn
    have := Int.mul_neg_of_neg_of_pos (show x < 0 by omega) hb
    omega
  by_cases h : 0 < b
  · exact Int.mul_nonneg (key h h1) (key h h2)
  · have a1 := key (x := -a) (b := -b) (by omega) (by rw [Int.neg_mul_neg]; exact h1)
    have a2 := key (x := -c) (b := -b) (by omega) (by rw [Int.neg_mul_neg]; exact h2)
    have := Int.mul_nonneg a1 a2
    rw [Int.neg_mul_neg] at this
    exact this
/-- one turn of the while -/
theorem round {k at_ D c : Nat} {own left t : List (List Int)} {P : List Int} (hs : own.mergeSort (leH at_) = P :: t) (ho : ∀ r ∈ own, Rw k at_ D r ∧ hd at_ r ≠ 0) (hl : ∀ r ∈ left, Rw k (at_ + 1) D r) (hD : D < 2 ^ 4194304)
    (hp : (hd at_ P).natAbs < 2 ^ 9000) (n1 : own.length ≤ 100) (n2 : left.length ≤ 100) (hc : ∀ r ∈ t, ((hd at_ r).fdiv (hd at_ P)).natAbs ≤ c) :
    ∃ R1 R2, lsW k at_ (own, left) = some (P :: R1, left ++ R2) ∧ (∀ r ∈ P :: R1, Rw k at_ (D + c * D) r ∧ hd at_ r ≠ 0) ∧ (∀ r ∈ left ++ R2, Rw k (at_ + 1) (D + c * D) r) ∧ (∀ r ∈ R1, (hd at_ r).natAbs < (hd at_ P).natAbs ∧ 0 ≤ hd at_ r * hd at_ P) ∧
      Eqv (own ++ left) ((P :: R1) ++ (left ++ R2)) ∧ (P :: R1).length + (left ++ R2).length ≤ own.length + left.length ∧ R1.length ≤ t.length ∧
      ∀ r ∈ t, rlM r ((hd at_ r).fdiv (hd at_ P)) P ∈ R1 ∨ ((hd at_ r).fmod (hd at_ P) = 0 ∧ R1.length < t.length) := by
  obtain ⟨pm, hmin⟩ := sorted_by hs
  have mo : ∀ r, r ∈ P :: t → r ∈ own := fun r h => pm.mem_iff.mp h
  have hP := ho P (mo P (List.mem_cons_self ..))
  have ht : ∀ r ∈ t, Rw k at_ D r ∧ hd at_ r ≠ 0 := fun r h => ho r (mo r (List.mem_cons_of_mem _ h))
  have len : own.length = t.length + 1 := by rw [← pm.length_eq]; rfl
  have hrest : ∀ r ∈ lsRest at_ P t, Rw k at_ (D + c * D) r ∧ (hd at_ r).natAbs < (hd at_ P).natAbs ∧ 0 ≤ hd at_ r * hd at_ P := fun r h => by
    obtain ⟨a, ha, rfl⟩ := List.mem_map.mp h
    have q := (ht a ha).1
    refine ⟨q.less hP.1 (hc a ha), ?_⟩
    rw [hd_less q.len hP.1.len]
    exact fm_lt hP.2
  have lr : (lsRest at_ P t).length = t.length := List.length_map ..
  refine ⟨(lsRest at_ P t).filter (fun r => decide (hd at_ r ≠ 0)), (lsRest at_ P t).filter (fun r => decide (hd at_ r = 0) && nzRow r), ?_, fun r hr => ?_, fun r hr => ?_, fun r hr => ?_, ?_, ?_, ?_, fun r hr => ?_⟩
  · unfold lsW
    simp only [hs]
    rw [if_pos]
    refine ⟨hP.2, ?_, ?_, n1, n2⟩
    · by_cases h0 : (hd at_ P).natAbs = 0
      · rw [h0]; decide
      · exact (Nat.log2_lt h0).mpr hp
    · rw [List.all_eq_true]
      exact fun r hr => (ho r hr).1.ok hD
  · rcases List.mem_cons.mp hr with rfl | hr
    · exact ⟨hP.1.mono (Nat.le_refl _) (by omega), hP.2⟩
    · rw [List.mem_filter] at hr
      exact ⟨(hrest r hr.1).1, of_decide_eq_true hr.2⟩
  · rcases List.mem_append.mp hr with hr | hr
    · exact (hl r hr).mono (Nat.le_refl _) (by omega)
    · rw [List.mem_filter, Bool.and_eq_true] at hr
      have q := (hrest r hr.1).1
      have z : hd at_ r = 0 := of_decide_eq_true hr.2.1
      refine ⟨q.len, fun i hi => ?_, q.bd⟩
      by_cases e : i = at_
      · rw [e]; exact z
      · exact q.low i (by omega)
  · rw [List.mem_filter] at hr
    exact (hrest r hr.1).2
  · refine Eqv.of (fun r hr => ?_) (fun r hr => ?_)
    · rcases List.mem_append.mp hr with hr | hr
      · rcases List.mem_cons.mp (pm.mem_iff.mpr hr) with rfl | hr
        · exact In.mem (List.mem_append_left _ (List.mem_cons_self ..))
        · have iP : In ((P :: (lsRest at_ P t).filter (fun r => decide (hd at_ r ≠ 0))) ++ (left ++ (lsRest at_ P t).filter (fun r => decide (hd at_ r = 0) && nzRow r))) (vec P) := In.mem (List.mem_append_left _ (List.mem_cons_self ..))
          have mr : rlM r ((hd at_ r).fdiv (hd at_ P)) P ∈ lsRest at_ P t := List.mem_map.mpr ⟨r, hr, rfl⟩
          have e := fun i => rl_at (q := (hd at_ r).fdiv (hd at_ P)) ((ht r hr).1.len.trans hP.1.len.symm) i
          have i1 : In ((P :: (lsRest at_ P t).filter (fun r => decide (hd at_ r ≠ 0))) ++ (left ++ (lsRest at_ P t).filter (fun r => decide (hd at_ r = 0) && nzRow r))) (vec (rlM r ((hd at_ r).fdiv (hd at_ P)) P)) := by
            by_cases h0 : hd at_ (rlM r ((hd at_ r).fdiv (hd at_ P)) P) = 0
            · by_cases hz : nzRow (rlM r ((hd at_ r).fdiv (hd at_ P)) P) = true
              · exact In.mem (List.mem_append_right _ (List.mem_append_right _ (List.mem_filter.mpr ⟨mr, by rw [hz, decide_eq_true h0]; rfl⟩)))
              · exact .zero (nz_zero (by simpa using hz))
            · exact In.mem (List.mem_append_left _ (List.mem_cons_of_mem _ (List.mem_filter.mpr ⟨mr, decide_eq_true h0⟩)))
          exact i1.lin 1 ((hd at_ r).fdiv (hd at_ P)) iP fun i => by rw [e]; omega
      · exact In.mem (List.mem_append_right _ (List.mem_append_left _ hr))
    · have iP : In (own ++ left) (vec P) := In.mem (List.mem_append_left _ (mo P (List.mem_cons_self ..)))
      have back : ∀ r ∈ lsRest at_ P t, In (own ++ left) (vec r) := fun r h => by
        obtain ⟨a, ha, rfl⟩ := List.mem_map.mp h
        have e := fun i => rl_at (q := (hd at_ a).fdiv (hd at_ P)) ((ht a ha).1.len.trans hP.1.len.symm) i
        exact Sp.sub _ (In.mem (List.mem_append_left _ (mo a (List.mem_cons_of_mem _ ha)))) iP e
      rcases List.mem_append.mp hr with hr | hr
      · rcases List.mem_cons.mp hr with rfl | hr
        · exact iP
        · exact back r (List.mem_filter.mp hr).1
      · rcases List.mem_append.mp hr with hr | hr
        · exact In.mem (List.mem_append_right _ hr)
        · exact back r (List.mem_filter.mp hr).1
  · have := two_filters (p := fun r => decide (hd at_ r ≠ 0)) (q := fun r => decide (hd at_ r = 0) && nzRow r) (l := lsRest at_ P t) (fun x _ h1 h2 => by
      rw [Bool.and_eq_true] at h2
      exact of_decide_eq_true h1 (of_decide_eq_true h2.1))
    rw [List.length_cons, List.length_append, len]
    omega
  · rw [← lr]
    exact List.length_filter_le ..
  · have mr : rlM r ((hd at_ r).fdiv (hd at_ P)) P ∈ lsRest at_ P t := List.mem_map.mpr ⟨r, hr, rfl⟩
    have eh := hd_less (at_ := at_) (ht r hr).1.len hP.1.len
    by_cases h0 : hd at_ (rlM r ((hd at_ r).fdiv (hd at_ P)) P) = 0
    · refine .inr ⟨by rw [← eh]; exact h0, ?_⟩
      rw [← lr]
      exact filter_lt mr (by simp [h0])
    · exact .inl (List.mem_filter.mpr ⟨mr, decide_eq_true h0⟩)
end Q
end

/-! text MD -/
section
set_option Elab.async false
set_option linter.all false
/-! the while of a column ends, what it leaves is bounded -/
namespace Q
theorem ineq_a {D' D h p x m c c' G : Nat} (h1 : D' * p ≤ 2 * (D * h)) (h2 : 2 * x ≤ h) (h3 : p ≤ m) (h4 : c' ≤ c) (h5 : D * h * h * m * 2 ^ c ≤ G) : D' * p * p * x * 2 ^ c' ≤ G := by
  have e1 : D' * p * p * x * 2 ^ c' = (D' * p) * (p * x * 2 ^ c') := by simp only [Nat.mul_assoc]
  have e2 : 2 * (D * h) * (p * x * 2 ^ c') = D * h * (2 * x) * p * 2 ^ c' := by simp only [Nat.mul_assoc, Nat.mul_comm, Nat.mul_left_comm]
  rw [e1]
  refine Nat.le_trans (Nat.mul_le_mul_right _ h1) ?_
  rw [e2]
  refine Nat.le_trans ?_ h5
  exact Nat.mul_le_mul (Nat.mul_le_mul (Nat.mul_le_mul_left _ h2) h3) (Nat.pow_le_pow_right (by omega) h4)
theorem ineq_b {D' D h p x m c c' G : Nat} (h1 : D' * p ≤ 2 * (D * h)) (h2 : x ≤ h) (h3 : p ≤ m) (h4 : c' + 1 ≤ c) (h5 : D * h * h * m * 2 ^ c ≤ G) : D' * p * p * x * 2 ^ c' ≤ G := by
  have e1 : D' * p * p * x * 2 ^ c' = (D' * p) * (p * x * 2 ^ c') := by simp only [Nat.mul_assoc]
  have e2 : 2 * (D * h) * (p * x * 2 ^ c') = D * h * x * p * 2 ^ (c' + 1) := by
    rw [Nat.pow_succ]
    simp only [Nat.mul_assoc, Nat.mul_comm, Nat.mul_left_comm]
  rw [e1]
  refine Nat.le_trans (Nat.mul_le_mul_right _ h1) ?_
  rw [e2]
  refine Nat.le_trans ?_ h5
  exact Nat.mul_le_mul (Nat.mul_le_mul (Nat.mul_le_mul_left _ h2) h3) (Nat.pow_le_pow_right (by omega) h4)
theorem ineq_c {D' D h p m c G : Nat} (h1 : D' * p ≤ 2 * (D * h)) (hp : 1 ≤ p) (hh : 1 ≤ h) (hm : 1 ≤ m) (hc : 1 ≤ c) (h5 : D * h * h * m * 2 ^ c ≤ G) : D' ≤ G := by
  have a1 : D' ≤ D' * p := Nat.le_mul_of_pos_right _ hp
  refine Nat.le_trans a1 (Nat.le_trans h1 (Nat.le_trans ?_ h5))
  have e1 : 2 * (D * h) = D * h * 1 * 1 * 2 ^ 1 := by rw [Nat.mul_one, Nat.mul_one, Nat.pow_one, Nat.mul_comm]
  rw [e1]
  exact Nat.mul_le_mul (Nat.mul_le_mul (Nat.mul_le_mul_left _ hh) hm) (Nat.pow_le_pow_right (by omega) hc)
/-- the while's state: the first row's head is the greatest, the others' heads have its sign -/
structure LI (k at_ D h G : Nat) (own left : List (List Int)) : Prop where
  ex : ∃ P rest, own = P :: rest ∧ (hd at_ P).natAbs = h ∧ (∀ r ∈ rest, (hd at_ r).natAbs < h ∧ 0 ≤ hd at_ r * hd at_ P) ∧ (rest = [] ∨ ∃ r ∈ rest, D * h * h * (hd at_ r).natAbs * 2 ^ own.length ≤ G)
  own : ∀ r ∈ own, Rw k at_ D r ∧ hd at_ r ≠ 0
  left : ∀ r ∈ left, Rw k (at_ + 1) D r
  le : D ≤ G
theorem li_loop {k at_ G : Nat} (hG : G < 2 ^ 4194304) : ∀ (h D : Nat) (own left : List (List Int)), LI k at_ D h G own left → h < 2 ^ 9000 → own.length + left.length ≤ 100 →
    ∃ fuel P L, wloop lsCond (lsW k at_) fuel (own, left) = some ([P], L) ∧ (Rw k at_ G P ∧ hd at_ P ≠ 0) ∧ (hd at_ P).natAbs ≤ h ∧ (∀ r ∈ L, Rw k (at_ + 1) G r) ∧ L.length + 1 ≤ own.length + left.length ∧ Eqv (own ++ left) (P :: L) := by
  intro h
  induction h using Nat.strongRecOn with
  | _ h ih =>
    intro D own left I hh hn
    obtain ⟨P0, rest, rfl, e0, hr, hd0⟩ := I.ex
    rcases hd0 with rfl | ⟨r0, hr0, hpot⟩
    · refine ⟨1, P0, left, by simp [wloop, lsCond], ?_, by omega, fun r hr => (I.left r hr).mono (Nat.le_refl _) I.le, ?_, Eqv.refl _⟩
      · have := I.own P0 (List.mem_cons_self ..)
        exact ⟨this.1.mono (Nat.le_refl _) I.le, this.2⟩
      · simp; omega
    · have hlen : 1 < (P0 :: rest).length := by
        cases rest with
        | nil => cases hr0
        | cons a b => simp
      cases hs : (P0 :: rest).mergeSort (leH at_) with
      | nil =>
        have := (List.mergeSort_perm (P0 :: rest) (leH at_)).length_eq
        rw [hs] at this
        simp at this
      | cons P t =>
        obtain ⟨pm, hmin⟩ := sorted_by hs
        have hP := I.own P (pm.mem_iff.mp (List.mem_cons_self ..))
        have hP0 := I.own P0 (List.mem_cons_self ..)
        have h0 := hr r0 hr0
        -- the pivot is less than h
        have pl : (hd at_ P).natAbs ≤ (hd at_ r0).natAbs := by
          rcases List.mem_cons.mp (pm.mem_iff.mpr (List.mem_cons_of_mem _ hr0)) with rfl | q
          · exact Nat.le_refl _
          · exact hmin r0 q
        have m0 : P0 ∈ t := by
          rcases List.mem_cons.mp (pm.mem_iff.mpr (List.mem_cons_self ..)) with q | q
          · rw [← q] at pl
            omega
          · exact q
        have le_h : ∀ r ∈ P0 :: rest, (hd at_ r).natAbs ≤ h ∧ 0 ≤ hd at_ r * hd at_ P0 := fun r q => by
          rcases List.mem_cons.mp q with rfl | q
          · refine ⟨by omega, ?_⟩
            have := Int.mul_nonneg (a := ((hd at_ r).natAbs : Int)) (b := ((hd at_ r).natAbs : Int)) (by omega) (by omega)
            rw [← Int.natCast_mul, Int.natAbs_mul_self] at this
            exact this
          · exact ⟨by have := (hr r q).1; omega, (hr r q).2⟩
        have p1 : 1 ≤ (hd at_ P).natAbs := by have := hP.2; omega
        have tO : ∀ r ∈ t, r ∈ P0 :: rest := fun r q => pm.mem_iff.mp (List.mem_cons_of_mem _ q)
        have hPO : P ∈ P0 :: rest := pm.mem_iff.mp (List.mem_cons_self ..)
        have same : ∀ r ∈ t, 0 ≤ hd at_ r * hd at_ P := fun r q => sign_tr hP0.2 (le_h r (tO r q)).2 (le_h P hPO).2
        have hc : ∀ r ∈ t, ((hd at_ r).fdiv (hd at_ P)).natAbs ≤ h / (hd at_ P).natAbs := fun r q => by
          rw [Nat.le_div_iff_mul_le (by omega)]
          exact Nat.le_trans (fd_same hP.2 (same r q)).1 (le_h r (tO r q)).1
        have lenO : (P0 :: rest).length = t.length + 1 := by rw [← pm.length_eq]; rfl
        obtain ⟨R1, R2, g1, g2, g3, g4, g5, g6, g7, g8⟩ := round (c := h / (hd at_ P).natAbs) hs I.own I.left (Nat.lt_of_le_of_lt I.le hG) (by omega) (by omega) (by omega) hc
        have dD : (D + h / (hd at_ P).natAbs * D) * (hd at_ P).natAbs ≤ 2 * (D * h) := by
          rw [Nat.add_mul]
          have a1 : D * (hd at_ P).natAbs ≤ D * h := Nat.mul_le_mul_left _ (by omega)
          have a2 : h / (hd at_ P).natAbs * D * (hd at_ P).natAbs ≤ D * h := by
            rw [Nat.mul_right_comm, Nat.mul_comm]
            exact Nat.mul_le_mul_left _ (Nat.div_mul_le_self _ _)
          omega
        have cl : (P :: R1).length ≤ (P0 :: rest).length := by rw [lenO, List.length_cons]; omega
        have I' : LI k at_ (D + h / (hd at_ P).natAbs * D) (hd at_ P).natAbs G (P :: R1) (left ++ R2) := by
          refine ⟨⟨P, R1, rfl, rfl, g4, ?_⟩, g2, g3, ineq_c dD p1 (by omega) (by omega) (by omega) hpot⟩
          have hf := fd_same (a := hd at_ P0) hP.2 (same P0 m0)
          rcases g8 P0 m0 with q | ⟨q1, q2⟩
          · refine .inr ⟨_, q, ?_⟩
            rw [hd_less hP0.1.len hP.1.len]
            exact ineq_a dD (by have := hf.2 (by omega); omega) pl cl hpot
          · cases R1 with
            | nil => exact .inl rfl
            | cons r1 R1 =>
              refine .inr ⟨r1, List.mem_cons_self .., ?_⟩
              have := (g4 r1 (List.mem_cons_self ..)).1
              refine ineq_b dD (by omega) pl ?_ hpot
              rw [lenO]
              simp only [List.length_cons] at q2 ⊢
              omega
        obtain ⟨fuel, P', L, f1, f2, f3, f4, f5, f6⟩ := ih (hd at_ P).natAbs (by omega) _ _ _ I' (by omega) (by omega)
        refine ⟨fuel + 1, P', L, ?_, f2, by omega, f4, by omega, g5.trans f6⟩
        have ec : lsCond (P0 :: rest, left) = some true := by unfold lsCond; simp only []; rw [decide_eq_true hlen]
        rw [wloop, ec]
        show (lsW k at_ (P0 :: rest, left)).bind _ = _
        rw [g1]
        exact f1
/-- a column's while, from its start -/
theorem col_loop {k at_ M : Nat} {own left : List (List Int)} (hM : 1 ≤ M) (hM2 : M < 2 ^ 9000) (ho : ∀ r ∈ own, Rw k at_ M r ∧ hd at_ r ≠ 0) (hl : ∀ r ∈ left, Rw k (at_ + 1) M r) (hn : own.length + left.length ≤ 12) (hne : own ≠ []) :
    ∃ fuel P L, wloop lsCond (lsW k at_) fuel (own, left) = some ([P], L) ∧ (Rw k at_ (2 ^ 14 * M ^ 4) P ∧ hd at_ P ≠ 0) ∧ (hd at_ P).natAbs ≤ M ∧ (∀ r ∈ L, Rw k (at_ + 1) (2 ^ 14 * M ^ 4) r) ∧ L.length + 1 ≤ own.length + left.length ∧ Eqv (own ++ left) (P :: L) := by
  have hG : 2 ^ 14 * M ^ 4 < 2 ^ 4194304 := by
    have a1 : M ^ 4 < (2 ^ 9000) ^ 4 := Nat.pow_lt_pow_left hM2 (by omega)
    rw [← Nat.pow_mul] at a1
    have a2 : 2 ^ 14 * M ^ 4 < 2 ^ 14 * 2 ^ (9000 * 4) := Nat.mul_lt_mul_of_pos_left a1 (by decide)
    rw [← Nat.pow_add] at a2
    exact Nat.lt_of_lt_of_le a2 (Nat.pow_le_pow_right (by omega) (by omega))
  have M1 : M ≤ M ^ 4 := by
    have := Nat.pow_le_pow_right hM (show 1 ≤ 4 by omega)
    rw [Nat.pow_one] at this
    exact this
  have M2 : M ^ 2 ≤ M ^ 4 := Nat.pow_le_pow_right hM (by omega)
  have MG : M ≤ 2 ^ 14 * M ^ 4 := Nat.le_trans M1 (Nat.le_mul_of_pos_left _ (by decide))
  cases own with
  | nil => exact absurd rfl hne
  | cons P0 rest =>
    cases rest with
    | nil =>
      have := ho P0 (List.mem_cons_self ..)
      refine ⟨1, P0, left, by simp [wloop, lsCond], ⟨this.1.mono (Nat.le_refl _) MG, this.2⟩, this.1.bd at_, fun r hr => (hl r hr).mono (Nat.le_refl _) MG, by simp; omega, Eqv.refl _⟩
    | cons P1 rest =>
      cases hs : (P0 :: P1 :: rest).mergeSort (leH at_) with
      | nil =>
        have := (List.mergeSort_perm (P0 :: P1 :: rest) (leH at_)).length_eq
        rw [hs] at this
        simp at this
      | cons P t =>
        obtain ⟨pm, hmin⟩ := sorted_by hs
        have hP := ho P (pm.mem_iff.mp (List.mem_cons_self ..))
        have p1 : 1 ≤ (hd at_ P).natAbs := by have := hP.2; omega
        have pM : (hd at_ P).natAbs ≤ M := hP.1.bd at_
        have tO : ∀ r ∈ t, r ∈ P0 :: P1 :: rest := fun r q => pm.mem_iff.mp (List.mem_cons_of_mem _ q)
        have hc : ∀ r ∈ t, ((hd at_ r).fdiv (hd at_ P)).natAbs ≤ (M + (hd at_ P).natAbs) / (hd at_ P).natAbs := fun r q => by
          rw [Nat.le_div_iff_mul_le (by omega)]
          have : (hd at_ r).natAbs ≤ M := (ho r (tO r q)).1.bd at_
          have := fd_le (a := hd at_ r) hP.2
          omega
        obtain ⟨R1, R2, g1, g2, g3, g4, g5, g6, g7, g8⟩ := round (c := (M + (hd at_ P).natAbs) / (hd at_ P).natAbs) hs ho hl (Nat.lt_of_le_of_lt MG hG) (by omega) (by omega) (by omega) hc
        obtain ⟨D', hD'⟩ : ∃ D', D' = M + (M + (hd at_ P).natAbs) / (hd at_ P).natAbs * M := ⟨_, rfl⟩
        rw [← hD'] at g2 g3
        have dD : D' * (hd at_ P).natAbs ≤ 3 * (M * M) := by
          rw [hD', Nat.add_mul]
          have a1 : M * (hd at_ P).natAbs ≤ M * M := Nat.mul_le_mul_left _ pM
          have a2 : (M + (hd at_ P).natAbs) / (hd at_ P).natAbs * M * (hd at_ P).natAbs ≤ M * (2 * M) := by
            rw [Nat.mul_right_comm, Nat.mul_comm]
            exact Nat.mul_le_mul_left _ (Nat.le_trans (Nat.div_mul_le_self _ _) (by omega))
          have e : M * (2 * M) = 2 * (M * M) := by rw [Nat.mul_left_comm]
          omega
        have lenO : (P0 :: P1 :: rest).length = t.length + 1 := by rw [← pm.length_eq]; rfl
        have cl : (P :: R1).length ≤ 12 := by
          rw [List.length_cons]
          omega
        have pot : ∀ x, x ≤ M → D' * (hd at_ P).natAbs * (hd at_ P).natAbs * x * 2 ^ (P :: R1).length ≤ 2 ^ 14 * M ^ 4 := fun x hx => by
          have b1 : D' * (hd at_ P).natAbs * (hd at_ P).natAbs * x * 2 ^ (P :: R1).length ≤ 3 * (M * M) * M * M * 2 ^ 12 := Nat.mul_le_mul (Nat.mul_le_mul (Nat.mul_le_mul dD pM) hx) (Nat.pow_le_pow_right (by omega) cl)
          have e4 : M ^ 4 = M * M * M * M := by
            rw [Nat.pow_succ, Nat.pow_succ, Nat.pow_succ, Nat.pow_one]
          have e5 : 3 * (M * M) * M * M * 2 ^ 12 = 3 * 2 ^ 12 * (M * M * M * M) := by simp only [Nat.mul_assoc, Nat.mul_comm, Nat.mul_left_comm]
          rw [e5] at b1
          rw [e4]
          refine Nat.le_trans b1 (Nat.mul_le_mul_right _ (by decide))
        have I' : LI k at_ D' (hd at_ P).natAbs (2 ^ 14 * M ^ 4) (P :: R1) (left ++ R2) := by
          refine ⟨⟨P, R1, rfl, rfl, g4, ?_⟩, g2, g3, ?_⟩
          · cases R1 with
            | nil => exact .inl rfl
            | cons r1 R1 =>
              have := (g4 r1 (List.mem_cons_self ..)).1
              exact .inr ⟨r1, List.mem_cons_self .., pot _ (by omega)⟩
          · have q := pot 1 hM
            have a1 : D' ≤ D' * (hd at_ P).natAbs := Nat.le_mul_of_pos_right _ p1
            have a2 : D' * (hd at_ P).natAbs ≤ D' * (hd at_ P).natAbs * (hd at_ P).natAbs := Nat.le_mul_of_pos_right _ p1
            have a3 : D' * (hd at_ P).natAbs * (hd at_ P).natAbs ≤ D' * (hd at_ P).natAbs * (hd at_ P).natAbs * 1 * 2 ^ (P :: R1).length := by
              rw [Nat.mul_one]
              exact Nat.le_mul_of_pos_right _ (Nat.pow_pos (by omega))
            omega
        obtain ⟨fuel, P', L, f1, f2, f3, f4, f5, f6⟩ := li_loop hG _ _ _ _ I' (by omega) (by omega)
        refine ⟨fuel + 1, P', L, ?_, f2, by omega, f4, by omega, g5.trans f6⟩
        have ec : lsCond (P0 :: P1 :: rest, left) = some true := by unfold lsCond; simp
        rw [wloop, ec]
        show (lsW k at_ (P0 :: P1 :: rest, left)).bind _ = _
        rw [g1]
        exact f1
end Q
end

/-! text ME -/
section
set_option Elab.async false
set_option linter.all false
/-! all columns: the least rows -/
namespace Q
theorem Eqv.app {A B : List (List Int)} (F : List (List Int)) (h : Eqv A B) : Eqv (F ++ A) (F ++ B) := by
  have one : ∀ {A B : List (List Int)}, Eqv A B → ∀ r ∈ F ++ A, In (F ++ B) (vec r) := fun {A B} h r hr => by
    rcases List.mem_append.mp hr with hr | hr
    · exact In.mem (List.mem_append_left _ hr)
    · exact In.mono (fun r hr => In.mem (List.mem_append_right _ hr)) ((h _).1 (In.mem hr))
  exact Eqv.of (one h) (one fun v => (h v).symm)
theorem Eqv.mem {A B : List (List Int)} (h : ∀ r, r ∈ A ↔ r ∈ B) : Eqv A B := Eqv.of (fun r hr => In.mem ((h r).1 hr)) (fun r hr => In.mem ((h r).2 hr))
theorem wl_more {S : Type} {c : S → Option Bool} {f : S → Option S} : ∀ {n m : Nat} {s r : S}, wloop c f n s = some r → n ≤ m → wloop c f m s = some r
  | 0, _, _, _, h, _ => by cases h
  | n + 1, 0, _, _, _, hm => by omega
  | n + 1, m + 1, s, r, h, hm => by
    unfold wloop at h ⊢
    cases hc : c s with
    | none => rw [hc] at h; cases h
    | some b =>
      rw [hc] at h
      cases b with
      | false => exact h
      | true =>
        cases hf : f s with
        | none =>
          simp only [hf] at h
          cases h
        | some s' =>
          simp only [hf] at h ⊢
          exact wl_more (n := n) (m := m) h (by omega)
theorem getD_snoc {α : Type} {l : List α} {x d : α} {i : Nat} : (l ++ [x]).getD i d = if i < l.length then l.getD i d else if i = l.length then x else d := by
  rw [List.getD_eq_getElem?_getD, List.getD_eq_getElem?_getD]
  by_cases h : i < l.length
  · rw [if_pos h, List.getElem?_append_left h]
  · rw [if_neg h, List.getElem?_append_right (by omega)]
    by_cases e : i = l.length
    · rw [if_pos e, e, Nat.sub_self]; rfl
    · rw [if_neg e, List.getElem?_eq_none (by simp; omega)]; rfl
/-- rows in steps, told by place -/
theorem tri_of {k : Nat} : ∀ {fs : List (List Int)} {a : Nat}, (∀ i, i < fs.length → (fs.getD i []).length = k ∧ (∀ j, j < a + i → vec (fs.getD i []) j = 0) ∧ 0 < vec (fs.getD i []) (a + i)) → Tri k a fs
  | [], _, _ => trivial
  | f :: r, a, h => by
    refine ⟨h 0 (by simp), tri_of fun i hi => ?_⟩
    have := h (i + 1) (by simp; omega)
    rw [show a + 1 + i = a + (i + 1) by omega]
    exact this
/-- a row that begins at i, above 0 there -/
structure St (k i E B : Nat) (r : List Int) : Prop where
  rw_ : Rw k i E r
  pos : 0 < vec r i
  lt : vec r i ≤ B
def bE : Nat → Nat
  | 0 => 4
  | n + 1 => 4 * bE n + 14
theorem bE_s (n : Nat) : bE (n + 1) = 4 * bE n + 14 := rfl
theorem bE_mono : ∀ {a b : Nat}, a ≤ b → bE a ≤ bE b := by
  intro a b h
  induction h with
  | refl => exact Nat.le_refl _
  | @step m _ ih =>
    have := bE_s m
    show bE a ≤ bE (m + 1)
    omega
theorem pE {n : Nat} : 2 ^ 14 * (2 ^ bE n) ^ 4 = 2 ^ bE (n + 1) := by
  rw [← Nat.pow_mul, ← Nat.pow_add, bE]
  congr 1
  omega
/-- phase one after some columns -/
structure P1 (k : Nat) (orig : List (List Int)) (at_ : Nat) (s : List (List Int) × List (List Int)) : Prop where
  left : ∀ r ∈ s.1, Rw k at_ (2 ^ bE at_) r
  len : s.2.length = at_
  cnt : s.1.length + at_ ≤ 12
  st : ∀ i, i < at_ → St k i (2 ^ bE at_) (2 ^ bE i) (s.2.getD i [])
  eqv : Eqv orig (s.2 ++ s.1)
theorem p1_step {k at_ : Nat} {orig : List (List Int)} {s : List (List Int) × List (List Int)} (hk : k ≤ 6) (ha : at_ < k) (h : P1 k orig at_ s) {N : Int} (hN : N ≠ 0) (hin : In orig (fun i => N * ev at_ i)) :
    ∃ fuel, ∃ s', P1 k orig (at_ + 1) s' ∧ ∀ m, fuel ≤ m → lsC k m s at_ = some s' := by
  have b5 : bE at_ ≤ 8870 := Nat.le_trans (bE_mono (show at_ ≤ 5 by omega)) (by decide)
  have M9 : 2 ^ bE at_ < 2 ^ 9000 := Nat.pow_lt_pow_right (by omega) (by omega)
  have M1 : 1 ≤ 2 ^ bE at_ := Nat.pow_pos (by omega)
  obtain ⟨left, found⟩ := s
  have hl := h.left
  have hlen := h.len
  have hcnt := h.cnt
  have hst := h.st
  have heq := h.eqv
  simp only at hl hlen hcnt hst heq
  have tri : Tri k 0 found := tri_of fun i hi => by
    have q := hst i (by omega)
    exact ⟨q.rw_.len, fun j hj => q.rw_.low j (by omega), by rw [Nat.zero_add]; exact q.pos⟩
  have hown : left.filter (fun r => decide (hd at_ r ≠ 0)) ≠ [] := fun z => by
    have q := tri.above ((heq _).1 hin) (fun l hl' i hi => (hl l hl').low i (by omega)) (fun i hi => by
      show N * ev at_ i = 0
      unfold ev
      rw [if_neg (by omega), Int.mul_zero])
    have q2 := In.all (i := at_) (fun r hr => by
      have : r ∉ left.filter (fun r => decide (hd at_ r ≠ 0)) := by rw [z]; simp
      rw [List.mem_filter] at this
      apply Classical.byContradiction
      intro hz
      exact this ⟨hr, decide_eq_true hz⟩) q
    simp [ev] at q2
    exact hN q2
  have two := two_filters (p := fun r => decide (hd at_ r ≠ 0)) (q := fun r => decide (hd at_ r = 0)) (l := left) (fun x _ h1 h2 => of_decide_eq_true h1 (of_decide_eq_true h2))
  obtain ⟨fuel, P, L, f1, f2, f3, f4, f5, f6⟩ := col_loop (k := k) (at_ := at_) (own := left.filter (fun r => decide (hd at_ r ≠ 0))) (left := left.filter fun r => decide (hd at_ r = 0)) M1 M9
    (fun r hr => by
      rw [List.mem_filter] at hr
      exact ⟨hl r hr.1, of_decide_eq_true hr.2⟩)
    (fun r hr => by
      rw [List.mem_filter] at hr
      have q := hl r hr.1
      refine ⟨q.len, fun i hi => ?_, q.bd⟩
      by_cases e : i = at_
      · rw [e]; exact of_decide_eq_true hr.2
      · exact q.low i (by omega)) (by omega) hown
  rw [pE] at f2 f4
  refine ⟨fuel, (L, found ++ [if 0 < hd at_ P then P else P.map fun e => -e]), ⟨f4, ?_, ?_, fun i hi => ?_, ?_⟩, fun m hm => ?_⟩
  · simp [hlen]
  · show L.length + (at_ + 1) ≤ 12
    omega
  · show St k i _ _ ((found ++ [_]).getD i [])
    rw [getD_snoc]
    by_cases hi2 : i < at_
    · rw [if_pos (by omega)]
      have q := hst i hi2
      exact ⟨q.rw_.mono (Nat.le_refl _) (Nat.pow_le_pow_right (by omega) (by have := bE_s at_; clear M9; omega)), q.pos, q.lt⟩
    · have ei : i = at_ := by omega
      subst ei
      rw [if_neg (by omega), if_pos (by omega)]
      have hb : (vec P i).natAbs ≤ 2 ^ bE i := f3
      have hz : vec P i ≠ 0 := f2.2
      generalize 2 ^ bE i = M at hb ⊢
      by_cases hp : 0 < hd i P
      · rw [if_pos hp]
        exact ⟨f2.1, hp, by omega⟩
      · rw [if_neg hp]
        have hp : ¬ 0 < vec P i := hp
        refine ⟨⟨by rw [List.length_map]; exact f2.1.len, fun j hj => by rw [neg_at, f2.1.low j hj]; rfl, fun j => by rw [neg_at, Int.natAbs_neg]; exact f2.1.bd j⟩, ?_, ?_⟩
        · rw [neg_at]
          omega
        · rw [neg_at]
          omega
  · refine heq.trans ?_
    have e1 : Eqv left (left.filter (fun r => decide (hd at_ r ≠ 0)) ++ left.filter fun r => decide (hd at_ r = 0)) := Eqv.mem fun r => by
      rw [List.mem_append, List.mem_filter, List.mem_filter]
      constructor
      · intro hr
        by_cases h0 : hd at_ r = 0
        · exact .inr ⟨hr, decide_eq_true h0⟩
        · exact .inl ⟨hr, decide_eq_true h0⟩
      · rintro (hr | hr) <;> exact hr.1
    have e2 := (e1.trans f6).app found
    refine e2.trans ?_
    show Eqv _ ((found ++ [if 0 < hd at_ P then P else P.map fun e => -e]) ++ L)
    rw [List.append_assoc]
    refine Eqv.app found ?_
    by_cases hp : 0 < hd at_ P
    · rw [if_pos hp]
      exact Eqv.refl _
    · rw [if_neg hp]
      refine Eqv.of (fun r hr => ?_) (fun r hr => ?_)
      · rcases List.mem_cons.mp hr with rfl | hr
        · exact Sp.smul (-1) (In.mem (List.mem_append_left _ (List.mem_cons_self ..))) fun i => by rw [neg_at]; omega
        · exact In.mem (List.mem_append_right _ hr)
      · rcases List.mem_append.mp hr with hr | hr
        · cases List.mem_singleton.mp hr
          exact Sp.smul (-1) (In.mem (List.mem_cons_self ..)) fun i => by rw [neg_at]; omega
        · exact In.mem (List.mem_cons_of_mem _ hr)
  · unfold lsC
    rw [if_pos]
    · rw [wl_more f1 hm]
      rfl
    · refine ⟨?_, by show left.length ≤ 100; omega, by show found.length ≤ 100; omega⟩
      rw [List.all_eq_true]
      exact fun r hr => (hl r hr).ok (Nat.lt_trans M9 (Nat.pow_lt_pow_right (by omega) (by omega)))
theorem p1_all {k : Nat} {orig : List (List Int)} {s0 : List (List Int) × List (List Int)} (hk : k ≤ 6) (h : P1 k orig 0 s0) {N : Int} (hN : N ≠ 0) (hin : ∀ j, j < k → In orig (fun i => N * ev j i)) :
    ∀ n, n ≤ k → ∃ fuel s', P1 k orig n s' ∧ ∀ m, fuel ≤ m → (List.range n).foldlM (lsC k m) s0 = some s' := by
  intro n
  induction n with
  | zero => intro _; exact ⟨0, s0, h, fun _ _ => rfl⟩
  | succ n ih =>
    intro hn
    obtain ⟨f1, s1, h1, g1⟩ := ih (by omega)
    obtain ⟨f2, s2, h2, g2⟩ := p1_step hk (by omega) h1 hN (hin n (by omega))
    refine ⟨f1 + f2, s2, h2, fun m hm => ?_⟩
    rw [List.range_succ, List.foldlM_append, g1 m (by omega)]
    show (lsC k m s1 n >>= _) = _
    rw [g2 m (by omega)]
    rfl
end Q
end

/-! text MF -/
section
set_option Elab.async false
set_option linter.all false
/-! the rows reduced above the steps; the whole reckoning -/
namespace Q
/-- least rows -/
structure HN (k : Nat) (q : List (List Int)) : Prop where
  len : q.length = k
  row : ∀ i, i < k → (q.getD i []).length = k ∧ (∀ j, j < i → vec (q.getD i []) j = 0) ∧ 0 < vec (q.getD i []) i
  red : ∀ j, j < k → ∀ a, a < j → 0 ≤ vec (q.getD a []) j ∧ vec (q.getD a []) j < vec (q.getD j []) j
theorem getD_set {α : Type} {l : List α} {x d : α} {i j : Nat} (hj : j < l.length) : (l.set j x).getD i d = if i = j then x else l.getD i d := by
  rw [List.getD_eq_getElem?_getD, List.getD_eq_getElem?_getD]
  by_cases h : i = j
  · rw [if_pos h, h, List.getElem?_set_self hj]; rfl
  · rw [if_neg h, List.getElem?_set_ne (fun z => h z.symm)]
/-- phase two, some rows of a stage done -/
structure P2 (k : Nat) (orig : List (List Int)) (at_ m E E' : Nat) (q : List (List Int)) : Prop where
  len : q.length = k
  old : ∀ i, m ≤ i → i < k → St k i (2 ^ E) (2 ^ 8870) (q.getD i [])
  new : ∀ i, i < k → St k i (2 ^ E') (2 ^ 8870) (q.getD i [])
  red : ∀ j, j < k → j < at_ → ∀ a, a < j → 0 ≤ vec (q.getD a []) j ∧ vec (q.getD a []) j < vec (q.getD j []) j
  now : ∀ a, a < m → 0 ≤ vec (q.getD a []) at_ ∧ vec (q.getD a []) at_ < vec (q.getD at_ []) at_
  eqv : Eqv orig q
theorem p2_step {k at_ m E E' : Nat} {orig q : List (List Int)} (h : P2 k orig at_ m E E' q) (ha : at_ < k) (hm : m < at_) (hE : 2 * E + 2 ≤ E') (hE2 : E < 4194304) : ∃ q', lsD k at_ q m = some q' ∧ P2 k orig at_ (m + 1) E E' q' := by
  have hf := h.old m (Nat.le_refl _) (by omega)
  have hg := h.old at_ (by omega) ha
  have g0 : hd at_ (q.getD at_ []) ≠ 0 := by have := hg.pos; unfold vec at this; unfold hd; omega
  have hlen := h.len
  have g9 : (hd at_ (q.getD at_ [])).natAbs < 2 ^ 9000 := by
    have h1 : vec (q.getD at_ []) at_ ≤ ((2 ^ 8870 : Nat) : Int) := hg.lt
    have h2 := hg.pos
    have h3 : 2 ^ 8870 < 2 ^ 9000 := Nat.pow_lt_pow_right (by omega) (by omega)
    have h4 : (hd at_ (q.getD at_ [])).natAbs ≤ 2 ^ 8870 := by
      show (vec (q.getD at_ []) at_).natAbs ≤ _
      generalize 2 ^ 8870 = z at h1 ⊢
      omega
    exact Nat.lt_of_le_of_lt h4 h3
  have eE : 2 ^ E < 2 ^ 4194304 := Nat.pow_lt_pow_right (by omega) hE2
  let quo := (hd at_ (q.getD m [])).fdiv (hd at_ (q.getD at_ []))
  let f' := rlM (q.getD m []) quo (q.getD at_ [])
  have ef : ∀ i, vec f' i = vec (q.getD m []) i - quo * vec (q.getD at_ []) i := fun i => rl_at (hf.rw_.len.trans hg.rw_.len.symm) i
  have gs : ∀ (i : Nat), (q.set m f').getD i [] = if i = m then f' else q.getD i [] := fun i => getD_set (by omega)
  have fm : vec f' at_ = (vec (q.getD m []) at_).fmod (vec (q.getD at_ []) at_) := hd_less hf.rw_.len hg.rw_.len
  have sf : St k m (2 ^ E') (2 ^ 8870) f' := by
    refine ⟨⟨by show (rlM _ _ _).length = k; rw [rl_len, hf.rw_.len, hg.rw_.len, Nat.min_self], fun i hi => by rw [ef, hf.rw_.low i hi, hg.rw_.low i (by omega), Int.mul_zero]; rfl, fun i => ?_⟩, ?_, ?_⟩
    · have hq : quo.natAbs ≤ 2 ^ E + 1 := by
        have a1 := fd_le (a := hd at_ (q.getD m [])) g0
        have a2 : (hd at_ (q.getD m [])).natAbs ≤ 2 ^ E := hf.rw_.bd at_
        have a3 : 1 ≤ (hd at_ (q.getD at_ [])).natAbs := by omega
        have a4 : quo.natAbs * (hd at_ (q.getD at_ [])).natAbs ≤ (2 ^ E + 1) * (hd at_ (q.getD at_ [])).natAbs := by
          have a5 : 2 ^ E ≤ 2 ^ E * (hd at_ (q.getD at_ [])).natAbs := Nat.le_mul_of_pos_right _ a3
          rw [Nat.add_mul, Nat.one_mul]
          exact Nat.le_trans a1 (Nat.add_le_add_right (Nat.le_trans a2 a5) _)
        exact Nat.le_of_mul_le_mul_right a4 a3
      have h1 := hf.rw_.bd i
      have h2 : (quo * vec (q.getD at_ []) i).natAbs ≤ (2 ^ E + 1) * 2 ^ E := by
        rw [Int.natAbs_mul]
        exact Nat.mul_le_mul hq (hg.rw_.bd i)
      rw [ef]
      have h3 : (vec (q.getD m []) i - quo * vec (q.getD at_ []) i).natAbs ≤ 2 ^ E + (2 ^ E + 1) * 2 ^ E := Nat.le_trans (Int.natAbs_sub_le _ _) (Nat.add_le_add h1 h2)
      refine Nat.le_trans h3 (Nat.le_trans ?_ (Nat.pow_le_pow_right (by omega) hE))
      rw [Nat.pow_add, Nat.mul_comm 2 E, Nat.pow_mul]
      have z1 : 1 ≤ 2 ^ E := Nat.pow_pos (by omega)
      generalize 2 ^ E = z at z1 ⊢
      have z2 : z ≤ z * z := Nat.le_mul_of_pos_right _ z1
      rw [Nat.add_mul, Nat.one_mul, Nat.pow_two]
      omega
    · rw [ef, hg.rw_.low m hm, Int.mul_zero]
      have := hf.pos
      omega
    · rw [ef, hg.rw_.low m hm, Int.mul_zero]
      have := hf.lt
      omega
  have keep : ∀ i j, j < at_ → vec ((q.set m f').getD i []) j = vec (q.getD i []) j := fun i j hj => by
    rw [gs]
    by_cases e : i = m
    · rw [if_pos e, ef, hg.rw_.low j hj, Int.mul_zero, e]
      omega
    · rw [if_neg e]
  refine ⟨q.set m f', ?_, ⟨by rw [List.length_set]; exact hlen, fun i h1 h2 => ?_, fun i hi => ?_, fun j hj hj2 a haj => ?_, fun a haj => ?_, ?_⟩⟩
  · unfold lsD
    rw [if_pos]
    refine ⟨g0, ?_, hg.rw_.ok eE, hf.rw_.ok eE, hlen⟩
    exact (Nat.log2_lt (by omega)).mpr g9
  · rw [gs, if_neg (by omega)]
    exact h.old i (by omega) h2
  · rw [gs]
    by_cases e : i = m
    · rw [if_pos e, e]
      exact sf
    · rw [if_neg e]
      exact h.new i hi
  · rw [keep a j hj2, keep j j hj2]
    exact h.red j hj hj2 a haj
  · rw [gs at_, if_neg (by omega), gs a]
    by_cases e : a = m
    · rw [if_pos e, fm]
      exact ⟨Int.fmod_nonneg_of_pos _ hg.pos, Int.fmod_lt_of_pos _ hg.pos⟩
    · rw [if_neg e]
      exact h.now a (by omega)
  · refine h.eqv.trans (Eqv.of (fun r hr => ?_) (fun r hr => ?_))
    · obtain ⟨i, hi, rfl⟩ := List.getElem_of_mem hr
      have e : q[i] = q.getD i [] := by rw [List.getD_eq_getElem?_getD, List.getElem?_eq_getElem hi]; rfl
      have mem : ∀ i, i < k → (q.set m f').getD i [] ∈ q.set m f' := fun i hi => by
        rw [List.getD_eq_getElem?_getD, List.getElem?_eq_getElem (by rw [List.length_set]; omega)]
        exact List.getElem_mem _
      rw [e]
      by_cases ei : i = m
      · subst ei
        have i1 := In.mem (mem i (by omega))
        have i2 := In.mem (mem at_ ha)
        rw [gs, if_pos rfl] at i1
        rw [gs, if_neg (by omega)] at i2
        exact Sp.lin 1 quo i1 i2 fun j => by rw [ef]; omega
      · have i1 := In.mem (mem i (by omega))
        rw [gs, if_neg ei] at i1
        exact i1
    · have mem : ∀ i, i < k → q.getD i [] ∈ q := fun i hi => by
        rw [List.getD_eq_getElem?_getD, List.getElem?_eq_getElem (by omega)]
        exact List.getElem_mem _
      rcases List.mem_or_eq_of_mem_set hr with hr | rfl
      · exact In.mem hr
      · exact Sp.sub quo (In.mem (mem m (by omega))) (In.mem (mem at_ ha)) ef
theorem p2_row {k at_ E E' : Nat} {orig q : List (List Int)} (h : P2 k orig at_ 0 E E' q) (ha : at_ < k) (hE : 2 * E + 2 ≤ E') (hE2 : E < 4194304) : ∀ n, n ≤ at_ → ∃ q', (List.range n).foldlM (lsD k at_) q = some q' ∧ P2 k orig at_ n E E' q' := by
  intro n
  induction n with
  | zero => intro _; exact ⟨q, rfl, h⟩
  | succ n ih =>
    intro hn
    obtain ⟨q1, g1, h1⟩ := ih (by omega)
    obtain ⟨q2, g2, h2⟩ := p2_step h1 ha (by omega) hE hE2
    refine ⟨q2, ?_, h2⟩
    rw [List.range_succ, List.foldlM_append, g1]
    show (lsD k at_ q1 n >>= _) = _
    rw [g2]
    rfl
def cE : Nat → Nat
  | 0 => 35494
  | n + 1 => 2 * cE n + 2
theorem cE_s (n : Nat) : cE (n + 1) = 2 * cE n + 2 := rfl
theorem cE_mono : ∀ {a b : Nat}, a ≤ b → cE a ≤ cE b := by
  intro a b h
  induction h with
  | refl => exact Nat.le_refl _
  | @step m _ ih =>
    have := cE_s m
    show cE a ≤ cE (m + 1)
    omega
theorem p2_all {k : Nat} {orig q : List (List Int)} (hk : k ≤ 6) (h : P2 k orig 1 0 (cE 0) (cE 1) q) : ∀ n, n + 1 ≤ k → ∃ q', (List.range n).foldlM (lsE k) q = some q' ∧ P2 k orig (n + 1) 0 (cE n) (cE (n + 1)) q' := by
  intro n
  induction n with
  | zero => intro _; exact ⟨q, rfl, h⟩
  | succ n ih =>
    intro hn
    obtain ⟨q1, g1, h1⟩ := ih (by omega)
    have b : cE n ≤ cE 5 := cE_mono (by omega)
    have b5 : cE 5 < 4194304 := by decide
    obtain ⟨q2, g2, h2⟩ := p2_row h1 (by omega) (Nat.le_of_eq (cE_s n).symm) (by omega) (n + 1) (Nat.le_refl _)
    refine ⟨q2, ?_, ⟨h2.len, fun i _ hi => h2.new i hi, fun i hi => ?_, fun j hj hj2 a ha => ?_, fun a ha => absurd ha (by omega), h2.eqv⟩⟩
    · rw [List.range_succ, List.foldlM_append, g1]
      show (lsE k q1 n >>= _) = _
      unfold lsE
      rw [g2]
      rfl
    · have q := h2.new i hi
      exact ⟨q.rw_.mono (Nat.le_refl _) (Nat.pow_le_pow_right (by omega) (by have := cE_s (n + 1); omega)), q.pos, q.lt⟩
    · by_cases e : j = n + 1
      · rw [e] at ha ⊢
        exact h2.now a ha
      · exact h2.red j hj (by omega) a ha
/-- THE LEAST ROWS: of at most twelve rows of at most six numbers of at most 16, all multiples of a number other than 0 among their sums -/
theorem span_ok {k : Nat} {rows : List (List Int)} (hk0 : 1 ≤ k) (hk : k ≤ 6) (hr : ∀ r ∈ rows, r.length = k ∧ ∀ i, (vec r i).natAbs ≤ 16) (hc : rows.length ≤ 12) {N : Int} (hN : N ≠ 0) (hin : ∀ j, j < k → In rows (fun i => N * ev j i)) :
    ∃ fuel q, lsM k fuel rows = some q ∧ HN k q ∧ Eqv rows q := by
  have s0 : P1 k rows 0 (rows.filter nzRow, []) := by
    refine ⟨fun r h => ?_, rfl, ?_, fun i hi => absurd hi (by omega), ?_⟩
    · obtain ⟨h1, h2⟩ := hr r (List.mem_filter.mp h).1
      exact ⟨h1, fun i hi => absurd hi (by omega), h2⟩
    · have : (rows.filter nzRow).length ≤ rows.length := List.length_filter_le ..
      show (rows.filter nzRow).length + 0 ≤ 12
      omega
    · show Eqv rows ([] ++ rows.filter nzRow)
      rw [List.nil_append]
      refine Eqv.of (fun r h => ?_) (fun r h => In.mem (List.mem_filter.mp h).1)
      by_cases hz : nzRow r = true
      · exact In.mem (List.mem_filter.mpr ⟨h, hz⟩)
      · exact .zero (nz_zero (by simpa using hz))
  obtain ⟨fuel, ⟨left, found⟩, h1, g1⟩ := p1_all hk s0 hN hin k (Nat.le_refl _)
  have hl := h1.left
  have hlen := h1.len
  have hst := h1.st
  have heq := h1.eqv
  simp only at hl hlen hst heq
  have e1 : Eqv rows found := heq.trans (Eqv.of (fun r h => by
    rcases List.mem_append.mp h with h | h
    · exact In.mem h
    · refine .zero fun i => ?_
      by_cases hi : i < k
      · exact (hl r h).low i hi
      · exact vec_out (hl r h).len (by omega)) (fun r h => In.mem (List.mem_append_left _ h)))
  have st0 : ∀ i, i < k → St k i (2 ^ cE 0) (2 ^ 8870) (found.getD i []) := fun i hi => by
    have q := hst i hi
    have b1 : bE k ≤ cE 0 := Nat.le_trans (bE_mono hk) (by decide)
    have b2 : bE i ≤ 8870 := Nat.le_trans (bE_mono (show i ≤ 5 by omega)) (by decide)
    have b3 : 2 ^ bE i ≤ 2 ^ 8870 := Nat.pow_le_pow_right (by omega) b2
    exact ⟨q.rw_.mono (Nat.le_refl _) (Nat.pow_le_pow_right (by omega) b1), q.pos, Int.le_trans q.lt (Int.ofNat_le.mpr b3)⟩
  have p20 : P2 k rows 1 0 (cE 0) (cE 1) found := ⟨hlen, fun i _ hi => st0 i hi, fun i hi => by
      have q := st0 i hi
      exact ⟨q.rw_.mono (Nat.le_refl _) (Nat.pow_le_pow_right (by omega) (cE_mono (by omega))), q.pos, q.lt⟩, fun j _ hj a ha => absurd ha (by omega), fun a ha => absurd ha (by omega), e1⟩
  obtain ⟨q, g2, h2⟩ := p2_all hk p20 (k - 1) (by omega)
  refine ⟨fuel, q, ?_, ⟨h2.len, fun i hi => ?_, fun j hj a ha => h2.red j hj (by omega) a ha⟩, h2.eqv⟩
  · unfold lsM
    rw [g1 fuel (Nat.le_refl _)]
    exact g2
  · have z := h2.new i hi
    exact ⟨z.rw_.len, z.rw_.low, z.pos⟩
end Q
end

/-! text MG -/
section
set_option Elab.async false
set_option linter.all false
/-! whether a row is a sum of least rows -/
namespace Q
open PySem
/-- all numbers of a row are short -/
def bb (m : Nat) (r : List Int) : Prop := ∀ e ∈ r, Builtin.Int.intBits e ≤ m
theorem bb.at {m : Nat} {r : List Int} (h : bb m r) (i : Nat) : Builtin.Int.intBits (r.getD i 0) ≤ m := by
  rw [List.getD_eq_getElem?_getD]
  cases e : r[i]? with
  | none =>
    show Builtin.Int.intBits 0 ≤ m
    have : Builtin.Int.intBits 0 = 0 := by decide
    omega
  | some y => exact h y (List.mem_of_getElem? e)
theorem mulOk_le {i j : Int} {m n : Nat} (h1 : Builtin.Int.intBits i ≤ m) (h2 : Builtin.Int.intBits j ≤ n) (h : m + n ≤ 134217728) : mulOk i j = true := by
  unfold mulOk
  exact decide_eq_true (by omega)
theorem bb.rl {m n : Nat} {a b : List Int} {q : Int} (ha : bb m a) (hb : bb n b) (hq : Builtin.Int.intBits q ≤ m) : bb (m + n + 1) (rlM a q b) := fun e he => by
  unfold rlM at he
  obtain ⟨⟨x, y⟩, hp, rfl⟩ := List.mem_map.mp he
  have hx := ha x (List.of_mem_zip hp).1
  have hy := hb y (List.of_mem_zip hp).2
  have := intBits_sub_le hx (intBits_mul_le hq hy)
  show Builtin.Int.intBits (x - q * y) ≤ _
  omega
theorem rl_eq (a b : List Int) (q : Int) : ((a.zip b).map fun p => 1 * p.1 + -q * p.2) = rlM a q b := by
  unfold rlM
  refine List.map_congr_left fun p _ => ?_
  rw [Int.one_mul, Int.neg_mul]
  rfl
/-- both tests run, and say the same -/
theorem li_total {k n : Nat} (hn : n < 9000) (hk : k ≤ 1000) : ∀ (l : List (List Int × Nat)) (left : List Int) (m : Nat), (∀ x ∈ l, x.1.length = k ∧ x.2 < k ∧ x.1.getD x.2 0 ≠ 0 ∧ bb n x.1) → left.length = k → bb m left → m + (n + 1) * l.length ≤ 60000000 →
    ∃ b, liM l left = some b ∧ isM l left = some b
  | [], _, _, _, _, _, _ => ⟨true, rfl, rfl⟩
  | (row, p) :: rest, left, m, h, hl, hb, hm => by
    obtain ⟨h1, h2, h3, h4⟩ := h (row, p) (List.mem_cons_self ..)
    simp only at h1 h2 h3 h4
    have g : p < left.length ∧ p < row.length ∧ left.length ≤ 1000 ∧ row.getD p 0 ≠ 0 ∧ (row.getD p 0).natAbs.log2 < 9000 := by
      refine ⟨by omega, by omega, by omega, h3, ?_⟩
      have := h4.at p
      unfold Builtin.Int.intBits at this
      rw [if_neg (by simpa using h3)] at this
      omega
    have hm' : m + (n + 1) * rest.length + (n + 1) ≤ 60000000 := by
      rw [List.length_cons, Nat.mul_add, Nat.mul_one] at hm
      omega
    unfold liM isM
    rw [if_pos g, if_pos g]
    by_cases h0 : (left.getD p 0).fmod (row.getD p 0) ≠ 0
    · rw [if_pos h0, if_pos h0]
      exact ⟨false, rfl, rfl⟩
    · rw [if_neg h0, if_neg h0]
      have hq : Builtin.Int.intBits ((left.getD p 0).fdiv (row.getD p 0)) ≤ m := intBits_fdiv_le (hb.at p)
      have z : 0 ≤ (n + 1) * rest.length := Nat.zero_le _
      have a1 : row.all (mulOk ((left.getD p 0).fdiv (row.getD p 0))) = true := by
        rw [List.all_eq_true]
        exact fun y hy => mulOk_le hq (h4 y hy) (by omega)
      have a2 : left.all (mulOk 1) = true := by
        rw [List.all_eq_true]
        exact fun y hy => mulOk_le (m := 64) (by decide) (hb y hy) (by omega)
      have a3 : row.all (mulOk (-((left.getD p 0).fdiv (row.getD p 0)))) = true := by
        rw [List.all_eq_true]
        exact fun y hy => mulOk_le (intBits_neg_le hq) (h4 y hy) (by omega)
      rw [if_pos a1, a2, a3, rl_eq]
      obtain ⟨b, r1, r2⟩ := li_total hn hk rest (rlM left ((left.getD p 0).fdiv (row.getD p 0)) row) (m + n + 1) (fun x hx => h x (List.mem_cons_of_mem _ hx)) (by rw [rl_len, hl, h1, Nat.min_self]) (hb.rl h4 hq) (by omega)
      exact ⟨b, r1, r2⟩
/-- a sum is found -/
theorem li_mem {k : Nat} : ∀ {fs : List (List Int)} {a : Nat} {left : List Int} {b : Bool}, Tri k a fs → In fs (vec left) → left.length = k → liM (fs.zipIdx a) left = some b → b = true
  | [], _, _, _, _, _, _, h => by
    cases h
    rfl
  | f :: r, a, left, b, T, hi, hl, h => by
    obtain ⟨c, e, h2⟩ := T.head hi
    have e' : left.getD a 0 = c * f.getD a 0 := e
    have fp : 0 < f.getD a 0 := T.1.2.2
    rw [List.zipIdx_cons] at h
    unfold liM at h
    split at h
    · rename_i g
      have m0 : (left.getD a 0).fmod (f.getD a 0) = 0 := by rw [e', Int.mul_fmod_left]
      have d0 : (left.getD a 0).fdiv (f.getD a 0) = c := by rw [e']; exact Int.mul_fdiv_cancel _ (by omega)
      rw [if_neg (by rw [m0]; simp), d0] at h
      split at h
      · exact li_mem T.2 (h2.ext fun i => rl_at (hl.trans T.1.1.symm) i) (by rw [rl_len, hl, T.1.1, Nat.min_self]) h
      · cases h
    · cases h
theorem HN.tri {k : Nat} {q : List (List Int)} (h : HN k q) : Tri k 0 q := tri_of fun i hi => by
  have z := h.row i (by rw [← h.len]; exact hi)
  rw [Nat.zero_add]
  exact z
theorem HN.get {k : Nat} {q : List (List Int)} (h : HN k q) {r : List Int} (hr : r ∈ q) : ∃ i, i < k ∧ r = q.getD i [] := by
  obtain ⟨i, hi, rfl⟩ := List.getElem_of_mem hr
  refine ⟨i, by rw [← h.len]; exact hi, ?_⟩
  rw [List.getD_eq_getElem?_getD, List.getElem?_eq_getElem hi]
  rfl
theorem HN.lens {k : Nat} {q : List (List Int)} (h : HN k q) : ∀ r ∈ q, r.length = k := fun r hr => by
  obtain ⟨i, hi, rfl⟩ := h.get hr
  exact (h.row i hi).1
theorem zip_mem {α : Type} {l : List α} {x : α × Nat} {d : α} (h : x ∈ l.zipIdx) : x.2 < l.length ∧ x.1 = l.getD x.2 d := by
  obtain ⟨v, i⟩ := x
  rw [List.mem_zipIdx_iff_getElem?] at h
  obtain ⟨hi, e⟩ := List.getElem?_eq_some_iff.mp h
  refine ⟨hi, ?_⟩
  show v = l.getD i d
  rw [List.getD_eq_getElem?_getD, h]
  rfl
theorem HN.both {k n m : Nat} {q : List (List Int)} {left : List Int} (h : HN k q) (hn : n < 9000) (hk : k ≤ 1000) (hb : ∀ r ∈ q, bb n r) (hl : left.length = k) (hm : bb m left) (hs : m ≤ 10000000) : ∃ b, liM q.zipIdx left = some b ∧ isM q.zipIdx left = some b := by
  refine li_total hn hk q.zipIdx left m (fun x hx => ?_) hl hm ?_
  · obtain ⟨h1, h2⟩ := zip_mem (d := []) hx
    rw [h2]
    have hi : x.2 < k := by rw [← h.len]; exact h1
    have z := h.row x.2 hi
    refine ⟨z.1, hi, ?_, hb _ ?_⟩
    · have := z.2.2
      unfold vec at this
      omega
    · rw [List.getD_eq_getElem?_getD, List.getElem?_eq_getElem h1]
      exact List.getElem_mem _
  · rw [List.length_zipIdx, h.len]
    have : (n + 1) * k ≤ 9000 * 1000 := Nat.mul_le_mul (by omega) hk
    omega
theorem HN.inside {k n m : Nat} {q : List (List Int)} {left : List Int} (h : HN k q) (hn : n < 9000) (hk : k ≤ 1000) (hb : ∀ r ∈ q, bb n r) (hl : left.length = k) (hm : bb m left) (hs : m ≤ 10000000) (hi : In q (vec left)) : liM q.zipIdx left = some true ∧ isM q.zipIdx left = some true := by
  obtain ⟨b, h1, h2⟩ := h.both hn hk hb hl hm hs
  have := li_mem h.tri hi hl h1
  subst this
  exact ⟨h1, h2⟩
theorem any_take {l : List Int} {p : Nat} (h : p ≤ l.length) : (l.take p).any (· != 0) = false ↔ ∀ i, i < p → l.getD i 0 = 0 := by
  rw [List.any_eq_false]
  constructor
  · intro h1 i hi
    have hm : l.getD i 0 ∈ l.take p := by
      rw [List.getD_eq_getElem?_getD, List.getElem?_eq_getElem (by omega)]
      exact List.mem_take_iff_getElem.mpr ⟨i, by omega, rfl⟩
    have := h1 _ hm
    simpa using this
  · intro h1 x hx
    obtain ⟨i, hi, rfl⟩ := List.mem_take_iff_getElem.mp hx
    have := h1 i (by omega)
    rw [List.getD_eq_getElem?_getD, List.getElem?_eq_getElem (by omega)] at this
    simpa using this
theorem getD_in {α : Type} {l : List α} {i : Nat} {d : α} (h : i < l.length) : l.getD i d ∈ l := by
  rw [List.getD_eq_getElem?_getD, List.getElem?_eq_getElem h]
  exact List.getElem_mem _
/-- least rows, as both sides test them -/
theorem al_iff {k : Nat} {q : List (List Int)} (h1 : q.length = k) (h2 : ∀ r ∈ q, r.length = k) : alM q = true ↔ HN k q := by
  unfold alM
  rw [List.all_eq_true]
  constructor
  · intro h
    have key : ∀ i, i < k → alOk q (q.getD i [], i) = true := fun i hi => h _ (by
      rw [List.mem_zipIdx_iff_getElem?]
      show q[i]? = some (q.getD i [])
      rw [List.getD_eq_getElem?_getD, List.getElem?_eq_getElem (by omega)]
      rfl)
    refine ⟨h1, fun i hi => ?_, fun j hj a ha => ?_⟩
    · have z := key i hi
      have hl := h2 _ (getD_in (d := []) (show i < q.length by omega))
      unfold alOk at z
      simp only [Bool.and_eq_true, Bool.not_eq_true', decide_eq_false_iff_not] at z
      refine ⟨hl, fun j hj => (any_take (by omega)).mp z.1.1 j hj, ?_⟩
      have := z.1.2
      unfold vec
      omega
    · have z := key j hj
      unfold alOk at z
      simp only [Bool.and_eq_true, List.all_eq_true, decide_eq_true_eq] at z
      exact z.2 (q.getD a []) (by
        rw [List.getD_eq_getElem?_getD, List.getElem?_eq_getElem (by omega)]
        exact List.mem_take_iff_getElem.mpr ⟨a, by omega, rfl⟩)
  · intro h x hx
    obtain ⟨g1, g2⟩ := zip_mem (d := []) hx
    obtain ⟨row, i⟩ := x
    simp only at g1 g2
    subst g2
    have hi : i < k := by omega
    obtain ⟨r1, r2, r3⟩ := h.row i hi
    unfold alOk
    simp only [Bool.and_eq_true, Bool.not_eq_true', decide_eq_false_iff_not, List.all_eq_true, decide_eq_true_eq]
    refine ⟨⟨(any_take (by omega)).mpr r2, ?_⟩, fun a ha => ?_⟩
    · unfold vec at r3
      omega
    · obtain ⟨j, hj, rfl⟩ := List.mem_take_iff_getElem.mp ha
      have := h.red i hi j (by omega)
      unfold vec at this
      rw [show q.getD j [] = q[j] from by rw [List.getD_eq_getElem?_getD, List.getElem?_eq_getElem (show j < q.length by omega)]; rfl] at this
      exact this
/-! ### the steps divide, the product of the steps is inside -/
theorem HN.bound {k : Nat} {q : List (List Int)} (h : HN k q) {N : Int} (hN : N ≠ 0) (hin : ∀ j, j < k → In q (fun i => N * ev j i)) : ∀ r ∈ q, ∀ i, (vec r i).natAbs ≤ N.natAbs := fun r hr i => by
  obtain ⟨a, ha, rfl⟩ := h.get hr
  have dg : ∀ j, j < k → (vec (q.getD j []) j).natAbs ≤ N.natAbs := fun j hj => by
    obtain ⟨c, e⟩ := Tri.step (a := 0) (j := j) (n := N) h.tri (by rw [h.len]; exact hj) ((hin j hj).ext fun i => by rw [Nat.zero_add])
    rw [Nat.zero_add] at e
    have e2 := congrArg Int.natAbs e
    rw [Int.natAbs_mul] at e2
    have c1 : 1 ≤ c.natAbs := by
      have : c ≠ 0 := fun z => hN (by rw [e, z, Int.zero_mul])
      omega
    rw [e2]
    exact Nat.le_mul_of_pos_left _ c1
  by_cases hi : i < k
  · by_cases h1 : i < a
    · rw [(h.row a ha).2.1 i h1]
      exact Nat.zero_le _
    · by_cases h2 : i = a
      · rw [h2]; exact dg a ha
      · have z := h.red i hi a (by omega)
        have := dg i hi
        omega
  · rw [vec_out (h.row a ha).1 (by omega)]
    exact Nat.zero_le _
/-- a combination of unit vectors -/
theorem In.units {fs : List (List Int)} {d : Int} {a : Nat} : ∀ {n : Nat} {v : Ve}, (∀ j, j < n → In fs (fun i => d * ev (a + j) i)) → (∀ i, i < a ∨ a + n ≤ i → v i = 0) → In fs (fun i => d * v i)
  | 0, v, _, h => .zero fun i => by rw [h i (by omega), Int.mul_zero]
  | n + 1, v, h, hv => by
    have ih := In.units (fs := fs) (d := d) (a := a) (n := n) (v := fun i => if i = a + n then 0 else v i) (fun j hj => h j (by omega)) (fun i hi => by
      by_cases e : i = a + n
      · rw [if_pos e]
      · rw [if_neg e]; exact hv i (by omega))
    refine Sp.lin 1 (v (a + n)) ih (h n (by omega)) fun i => ?_
    unfold ev
    by_cases e : i = a + n
    · simp [e, Int.mul_comm]
    · simp [e]
def dpr : Nat → List (List Int) → Int
  | _, [] => 1
  | a, f :: r => vec f a * dpr (a + 1) r
theorem Tri.prod {k : Nat} : ∀ {fs : List (List Int)} {a : Nat}, Tri k a fs → a + fs.length = k → ∀ j, j < fs.length → In fs (fun i => dpr a fs * ev (a + j) i)
  | [], _, _, _, _, h => by cases h
  | f :: r, a, T, hk, j, hj => by
    have ih := Tri.prod T.2 (by rw [List.length_cons] at hk; omega)
    have up : ∀ {v : Ve}, In r v → In (f :: r) v := fun h => In.mono (fun x hx => In.mem (List.mem_cons_of_mem _ hx)) h
    rw [List.length_cons] at hk
    cases j with
    | zero =>
      have h2 := In.units (fs := r) (d := dpr (a + 1) r) (a := a + 1) (n := r.length) (v := fun i => if i = a then 0 else vec f i) ih (fun i hi => by
        by_cases e : i = a
        · rw [if_pos e]
        · rw [if_neg e]
          rcases hi with hi | hi
          · exact T.1.2.1 i (by omega)
          · exact vec_out T.1.1 (by omega))
      refine Sp.lin (dpr (a + 1) r) (-1) (In.mem (List.mem_cons_self ..)) (up h2) fun i => ?_
      show vec f a * dpr (a + 1) r * ev (a + 0) i = _
      unfold ev
      by_cases e : i = a
      · simp [e, Int.mul_comm]
      · simp [e]
        omega
    | succ j =>
      refine Sp.smul (vec f a) (up (ih j (by rw [List.length_cons] at hj; omega))) fun i => ?_
      show vec f a * dpr (a + 1) r * ev (a + (j + 1)) i = _
      rw [show a + (j + 1) = a + 1 + j by omega, Int.mul_assoc]
end Q
end

/-! text MH -/
section
set_option Elab.async false
set_option linter.all false
/-! rows as numbers a + b z + ..: what a row of any length stands for -/
namespace Q
open PySem
/-- times z -/
def mz (poly : List Int) (k : Nat) (v : Ve) : Ve := fun i => if i < k then (if i = 0 then 0 else v (i - 1)) - v (k - 1) * poly.getD i 0 else 0
/-- what a row stands for -/
def Er (poly : List Int) (k : Nat) : List Int → Ve
  | [] => fun _ => 0
  | a :: r => fun i => a * ev 0 i + mz poly k (Er poly k r) i
/-- a power of z -/
def zp (poly : List Int) (k : Nat) : Nat → Ve
  | 0 => ev 0
  | n + 1 => mz poly k (zp poly k n)
section
variable {poly : List Int} {k : Nat}
theorem mz_lin {u v w : Ve} {a b : Int} (h : ∀ i, w i = a * u i + b * v i) (i : Nat) : mz poly k w i = a * mz poly k u i + b * mz poly k v i := by
  unfold mz
  rw [h, h]
  by_cases hi : i < k
  · rw [if_pos hi, if_pos hi, if_pos hi]
    by_cases h0 : i = 0
    · rw [if_pos h0, if_pos h0, if_pos h0]
      simp only [Int.add_mul, Int.mul_sub, Int.mul_zero, Int.mul_assoc]
      omega
    · rw [if_neg h0, if_neg h0, if_neg h0]
      simp only [Int.add_mul, Int.mul_sub, Int.mul_assoc]
      omega
  · rw [if_neg hi, if_neg hi, if_neg hi]; simp
theorem mz_ext {u v : Ve} (h : ∀ i, u i = v i) (i : Nat) : mz poly k u i = mz poly k v i := by rw [show u = v from funext h]
theorem mz_zero (i : Nat) : mz poly k (fun _ => 0) i = 0 := by
  unfold mz
  split
  · split <;> simp
  · rfl
theorem mz_smul {u w : Ve} {a : Int} (h : ∀ i, w i = a * u i) (i : Nat) : mz poly k w i = a * mz poly k u i := by
  rw [mz_lin (u := u) (v := u) (a := a) (b := 0) (fun i => by rw [h]; omega) i]
  omega
theorem mz_out {v : Ve} {i : Nat} (hi : k ≤ i) : mz poly k v i = 0 := if_neg (by omega)
theorem Er_out (hk : 0 < k) : ∀ (l : List Int) {i : Nat}, k ≤ i → Er poly k l i = 0
  | [], _, _ => rfl
  | a :: r, i, hi => by
    show a * ev 0 i + mz poly k _ i = 0
    rw [mz_out hi]
    unfold ev
    rw [if_neg (by omega)]
    omega
theorem Er_rep (n : Nat) : ∀ i, Er poly k (List.replicate n 0) i = 0 := by
  induction n with
  | zero => exact fun _ => rfl
  | succ n ih =>
    intro i
    rw [List.replicate_succ]
    show 0 * ev 0 i + mz poly k _ i = 0
    rw [mz_ext ih, mz_zero]
    omega
theorem Er_app_rep : ∀ (l : List Int) (n : Nat) (i : Nat), Er poly k (l ++ List.replicate n 0) i = Er poly k l i
  | [], n, i => Er_rep n i
  | a :: r, n, i => by
    show a * ev 0 i + mz poly k (Er poly k (r ++ List.replicate n 0)) i = a * ev 0 i + mz poly k (Er poly k r) i
    rw [mz_ext (Er_app_rep r n)]
theorem Er_add : ∀ (l : List Int) (j : Nat) (v : Int), j < l.length → ∀ i, Er poly k (addAt l j v) i = Er poly k l i + v * zp poly k j i
  | [], _, _, h, _ => by cases h
  | a :: r, 0, v, _, i => by
    show (a + v) * ev 0 i + mz poly k _ i = a * ev 0 i + mz poly k _ i + v * ev 0 i
    rw [Int.add_mul]
    omega
  | a :: r, j + 1, v, h, i => by
    have e : addAt (a :: r) (j + 1) v = a :: addAt r j v := rfl
    rw [e]
    show a * ev 0 i + mz poly k (Er poly k (addAt r j v)) i = a * ev 0 i + mz poly k (Er poly k r) i + v * mz poly k (zp poly k j) i
    rw [mz_lin (u := Er poly k r) (v := zp poly k j) (a := 1) (b := v) (fun i => by rw [Er_add r j v (by simpa using h)]; omega) i]
    omega
/-- a short row stands for itself -/
theorem Er_short : ∀ (l : List Int), l.length ≤ k → ∀ i, Er poly k l i = vec l i
  | [], _, _ => rfl
  | a :: r, h, i => by
    rw [List.length_cons] at h
    have ih := Er_short r (by omega)
    show a * ev 0 i + mz poly k _ i = _
    rw [mz_ext ih]
    unfold mz ev
    have z : vec r (k - 1) = 0 := vec_out rfl (by omega)
    rw [z]
    cases i with
    | zero =>
      rw [if_pos rfl, if_pos (by omega), if_pos rfl]
      show _ = a
      omega
    | succ i =>
      rw [if_neg (by omega)]
      show _ = vec r i
      by_cases hi : i + 1 < k
      · rw [if_pos hi, if_neg (by omega)]
        rw [show i + 1 - 1 = i by omega]
        omega
      · rw [if_neg hi, vec_out rfl (show r.length ≤ i by omega)]
        omega
theorem Er_take {l : List Int} (h : ∀ j, k ≤ j → vec l j = 0) (i : Nat) : Er poly k l i = vec (l.take k) i := by
  have e : l.drop k = List.replicate (l.length - k) 0 := by
    refine List.ext_getElem (by simp) fun j h1 h2 => ?_
    rw [List.getElem_drop, List.getElem_replicate]
    have := h (k + j) (by omega)
    unfold vec at this
    rw [List.length_drop] at h1
    rw [List.getD_eq_getElem?_getD, List.getElem?_eq_getElem (by omega)] at this
    exact this
  have e2 : l = l.take k ++ List.replicate (l.length - k) 0 := by rw [← e, List.take_append_drop]
  have q := Er_app_rep (poly := poly) (k := k) (l.take k) (l.length - k) i
  rw [← e2] at q
  rw [q]
  exact Er_short _ (by rw [List.length_take]; omega) i
/-- the polynomial is monic of degree k -/
structure Mo (poly : List Int) (k : Nat) : Prop where
  len : poly.length = k + 1
  top : poly.getD k 0 = 1
  pos : 0 < k
theorem zp_unit (M : Mo poly k) : ∀ j, j < k → ∀ i, zp poly k j i = ev j i := by
  intro j
  induction j with
  | zero => exact fun _ _ => rfl
  | succ j ih =>
    intro hj i
    show mz poly k _ i = _
    rw [mz_ext (ih (by omega))]
    unfold mz ev
    rw [if_neg (show ¬ k - 1 = j by omega)]
    by_cases hi : i < k
    · rw [if_pos hi]
      by_cases h0 : i = 0
      · rw [if_pos h0, if_neg (by omega)]; omega
      · rw [if_neg h0]
        by_cases e : i = j + 1
        · rw [if_pos e, if_pos (by omega)]; omega
        · rw [if_neg e, if_neg (by omega)]; omega
    · rw [if_neg hi, if_neg (by omega)]
theorem zp_k (M : Mo poly k) (i : Nat) : zp poly k k i = if i < k then - poly.getD i 0 else 0 := by
  have hk := M.pos
  obtain ⟨m, rfl⟩ : ∃ m, k = m + 1 := ⟨k - 1, by omega⟩
  show mz poly (m + 1) (zp poly (m + 1) m) i = _
  rw [mz_ext (zp_unit M m (by omega))]
  unfold mz ev
  by_cases hi : i < m + 1
  · rw [if_pos hi, if_pos hi, if_pos (show m + 1 - 1 = m by omega)]
    by_cases h0 : i = 0
    · rw [if_pos h0]; omega
    · rw [if_neg h0, if_neg (by omega)]; omega
  · rw [if_neg hi, if_neg hi]
/-- a sum over a list -/
def sv {α : Type} (l : List α) (g : α → Ve) : Ve := fun i => (l.map fun x => g x i).sum
theorem sv_nil {α : Type} {g : α → Ve} (i : Nat) : sv [] g i = 0 := rfl
theorem sv_cons {α : Type} {g : α → Ve} {x : α} {l : List α} (i : Nat) : sv (x :: l) g i = g x i + sv l g i := by
  unfold sv
  rw [List.map_cons, List.sum_cons]
theorem sv_app {α : Type} {g : α → Ve} {l r : List α} (i : Nat) : sv (l ++ r) g i = sv l g i + sv r g i := by
  unfold sv
  rw [List.map_append, List.sum_append]
theorem sv_ext {α : Type} {g h : α → Ve} {l : List α} (i : Nat) (e : ∀ x ∈ l, g x i = h x i) : sv l g i = sv l h i := by
  unfold sv
  rw [List.map_congr_left e]
theorem sv_mz {α : Type} {g : α → Ve} : ∀ (l : List α) (i : Nat), mz poly k (sv l g) i = sv l (fun x => mz poly k (g x)) i
  | [], i => mz_zero i
  | x :: l, i => by
    rw [sv_cons, ← sv_mz l i]
    have := mz_lin (poly := poly) (k := k) (u := g x) (v := sv l g) (w := sv (x :: l) g) (a := 1) (b := 1) (fun i => by rw [sv_cons]; omega) i
    omega
/-- the polynomial's own number is 0, times any power of z -/
theorem poly_zero (M : Mo poly k) : ∀ j i, sv (List.range (k + 1)) (fun p i => poly.getD p 0 * zp poly k (j + p) i) i = 0 := by
  intro j
  induction j with
  | zero =>
    intro i
    rw [List.range_succ, sv_app, sv_cons, sv_nil, M.top, Nat.zero_add, zp_k M, Int.add_zero, Int.one_mul]
    have h1 : sv (List.range k) (fun p i => poly.getD p 0 * zp poly k (0 + p) i) i = if i < k then poly.getD i 0 else 0 := by
      have e1 : sv (List.range k) (fun p i => poly.getD p 0 * zp poly k (0 + p) i) i = sv (List.range k) (fun p i => poly.getD p 0 * ev p i) i := sv_ext i fun p hp => by
        rw [Nat.zero_add, zp_unit M p (List.mem_range.mp hp)]
      rw [e1]
      have gen : ∀ n, sv (List.range n) (fun p i => poly.getD p 0 * ev p i) i = if i < n then poly.getD i 0 else 0 := by
        intro n
        induction n with
        | zero => rfl
        | succ n ih =>
          rw [List.range_succ, sv_app, sv_cons, sv_nil, ih]
          unfold ev
          by_cases h : i < n
          · rw [if_pos h, if_neg (by omega), if_pos (by omega)]; omega
          · by_cases e : i = n
            · rw [if_neg h, if_pos e, if_pos (by omega), e]; omega
            · rw [if_neg h, if_neg e, if_neg (by omega)]; omega
      exact gen k
    rw [h1]
    split <;> omega
  | succ j ih =>
    intro i
    have e : sv (List.range (k + 1)) (fun p i => poly.getD p 0 * zp poly k (j + 1 + p) i) i = sv (List.range (k + 1)) (fun p => mz poly k fun i => poly.getD p 0 * zp poly k (j + p) i) i := sv_ext i fun p _ => by
      rw [show j + 1 + p = (j + p) + 1 by omega]
      show poly.getD p 0 * mz poly k (zp poly k (j + p)) i = _
      rw [mz_smul (a := poly.getD p 0) (fun _ => rfl)]
    rw [e, ← sv_mz, mz_ext ih, mz_zero]
end
end Q
end

/-! text MI -/
section
set_option Elab.async false
set_option linter.all false
/-! cutting, products, sums closed under z -/
namespace Q
open PySem
section
variable {poly : List Int} {k : Nat}
theorem bb_of {m : Nat} {r : List Int} (h : ∀ j, Builtin.Int.intBits (vec r j) ≤ m) : bb m r := fun e he => by
  obtain ⟨i, hi, rfl⟩ := List.getElem_of_mem he
  have := h i
  unfold vec at this
  rw [List.getD_eq_getElem?_getD, List.getElem?_eq_getElem hi] at this
  exact this
theorem bb.mono {m n : Nat} {r : List Int} (h : bb m r) (l : m ≤ n) : bb n r := fun e he => Nat.le_trans (h e he) l
theorem add_vec {l : List Int} {j : Nat} {v : Int} (h : j < l.length) (i : Nat) : vec (addAt l j v) i = if i = j then vec l j + v else vec l i := by
  unfold addAt vec
  rw [getD_set h]
theorem ct_set (left : List Int) (j : Nat) (a b : Int) : left.set j (left.getD j 0 - a * b) = addAt left j (-(a * b)) := rfl
theorem ct_fold {m pb at_ : Nat} {left : List Int} (M : Mo poly k) (hp : bb pb poly) (hb : bb m left) (hat : k ≤ at_) (hl : at_ < left.length) (hm : m + pb ≤ 100000000) {head : Int} (hh : Builtin.Int.intBits head ≤ m) : ∀ n, n ≤ k + 1 →
    ∃ l, (List.range n).foldlM (ctI poly k at_ head) left = some l ∧ l.length = left.length ∧ (∀ j, vec l j = if at_ - k ≤ j ∧ j < at_ - k + n then vec left j - head * poly.getD (j - (at_ - k)) 0 else vec left j) ∧
      ∀ i, Er poly k l i = Er poly k left i - head * sv (List.range n) (fun p i => poly.getD p 0 * zp poly k (at_ - k + p) i) i := by
  intro n
  induction n with
  | zero => exact fun _ => ⟨left, rfl, rfl, fun j => by rw [if_neg (by omega)], fun i => by rw [List.range_zero, sv_nil, Int.mul_zero]; omega⟩
  | succ n ih =>
    intro hn
    obtain ⟨l, g1, g2, g3, g4⟩ := ih (by omega)
    have hlt : at_ - k + n < l.length := by omega
    refine ⟨addAt l (at_ - k + n) (-(head * poly.getD n 0)), ?_, by unfold addAt; rw [List.length_set, g2], fun j => ?_, fun i => ?_⟩
    · rw [List.range_succ, List.foldlM_append, g1]
      show (ctI poly k at_ head l n >>= _) = _
      unfold ctI grd
      rw [if_pos]
      · rfl
      · rw [Bool.and_eq_true, Bool.and_eq_true]
        exact ⟨⟨decide_eq_true hlt, decide_eq_true (by rw [M.len]; omega)⟩, mulOk_le hh (hp.at n) (by omega)⟩
    · rw [add_vec hlt, g3, g3]
      by_cases e : j = at_ - k + n
      · rw [if_pos e, if_neg (by omega), if_pos (by omega), e, show at_ - k + n - (at_ - k) = n by omega]
        omega
      · rw [if_neg e]
        by_cases h : at_ - k ≤ j ∧ j < at_ - k + n
        · rw [if_pos h, if_pos (by omega)]
        · rw [if_neg h, if_neg (by omega)]
    · rw [Er_add _ _ _ hlt, g4, List.range_succ, sv_app, sv_cons, sv_nil, Int.mul_add, Int.mul_add, Int.neg_mul, Int.mul_zero, Int.mul_assoc]
      omega
theorem ct_one {m pb len i : Nat} {left : List Int} (M : Mo poly k) (hp : bb pb poly) (hb : bb m left) (hl : left.length = len) (hi : i < len - k) (hm : m + pb ≤ 100000000) (hz : ∀ j, len - i ≤ j → vec left j = 0) :
    ∃ l, ctO poly k len left i = some l ∧ l.length = len ∧ (∀ j, len - (i + 1) ≤ j → vec l j = 0) ∧ (∀ j, Er poly k l j = Er poly k left j) ∧ bb (m + (pb + 1)) l := by
  unfold ctO
  rw [if_pos (by omega)]
  by_cases h0 : left.getD (len - 1 - i) 0 = 0
  · rw [if_pos h0]
    refine ⟨left, rfl, hl, fun j hj => ?_, fun _ => rfl, hb.mono (by omega)⟩
    by_cases e : j = len - 1 - i
    · rw [e]; exact h0
    · exact hz j (by omega)
  · rw [if_neg h0]
    obtain ⟨l, g1, g2, g3, g4⟩ := ct_fold (at_ := len - 1 - i) M hp hb (by omega) (by omega) hm (hb.at (len - 1 - i)) (k + 1) (Nat.le_refl _)
    refine ⟨l, g1, by omega, fun j hj => ?_, fun j => by rw [g4, poly_zero M]; omega, bb_of fun j => ?_⟩
    · rw [g3]
      by_cases e : j = len - 1 - i
      · rw [if_pos (by omega), e, show len - 1 - i - (len - 1 - i - k) = k by omega, M.top]
        unfold vec
        omega
      · rw [if_neg (by omega)]
        exact hz j (by omega)
    · rw [g3]
      split
      · have := intBits_sub_le (hb.at j) (intBits_mul_le (hb.at (len - 1 - i)) (hp.at (j - (len - 1 - i - k))))
        unfold vec
        omega
      · have := hb.at j
        unfold vec
        omega
theorem ct_all {m pb len : Nat} {left : List Int} (M : Mo poly k) (hp : bb pb poly) (hb : bb m left) (hl : left.length = len) (hm : m + pb + (pb + 1) * len ≤ 100000000) : ∀ n, n ≤ len - k →
    ∃ l, (List.range n).foldlM (ctO poly k len) left = some l ∧ l.length = len ∧ (∀ j, len - n ≤ j → vec l j = 0) ∧ (∀ j, Er poly k l j = Er poly k left j) ∧ bb (m + (pb + 1) * n) l := by
  intro n
  induction n with
  | zero => exact fun _ => ⟨left, rfl, hl, fun j hj => vec_out hl (by omega), fun _ => rfl, hb.mono (by omega)⟩
  | succ n ih =>
    intro hn
    obtain ⟨l, g1, g2, g3, g4, g5⟩ := ih (by omega)
    have hmul : (pb + 1) * n ≤ (pb + 1) * len := Nat.mul_le_mul_left _ (by omega)
    obtain ⟨l2, f1, f2, f3, f4, f5⟩ := ct_one (i := n) M hp g5 g2 (by omega) (by omega) g3
    refine ⟨l2, ?_, f2, f3, fun j => (f4 j).trans (g4 j), f5.mono (by rw [Nat.mul_succ]; omega)⟩
    rw [List.range_succ, List.foldlM_append, g1]
    show (ctO poly k len l n >>= _) = _
    rw [f1]
    rfl
/-- a row cut -/
theorem ct_ok {m pb n : Nat} {row : List Int} (M : Mo poly k) (hp : bb pb poly) (hb : bb m row) (h1 : k ≤ row.length + n) (h2 : row.length + n ≤ 1000) (hm : m + pb + (pb + 1) * 1000 ≤ 100000000) :
    ∃ q, ctM poly n row = some q ∧ q.length = k ∧ (∀ i, vec q i = Er poly k row i) ∧ bb (m + (pb + 1) * 1000) q := by
  have hk := M.pos
  have hlen := M.len
  have hb' : bb m (row ++ List.replicate n 0) := fun e he => by
    rcases List.mem_append.mp he with he | he
    · exact hb e he
    · rw [(List.mem_replicate.mp he).2]
      have : Builtin.Int.intBits 0 = 0 := by decide
      omega
  have hl : (row ++ List.replicate n 0).length = row.length + n := by simp
  have hmul : (pb + 1) * (row.length + n) ≤ (pb + 1) * 1000 := Nat.mul_le_mul_left _ h2
  obtain ⟨l, g1, g2, g3, g4, g5⟩ := ct_all (len := row.length + n) M hp hb' hl (by omega) (row.length + n - k) (Nat.le_refl _)
  refine ⟨l.take k, ?_, by rw [List.length_take, g2]; omega, fun i => ?_, fun e he => ?_⟩
  · unfold ctM
    have e : poly.length - 1 = k := by omega
    rw [e, if_pos (by omega), g1]
    show grd (decide (k ≤ l.length)) (l.take k) = _
    unfold grd
    rw [if_pos (decide_eq_true (by omega))]
  · rw [← Er_take (poly := poly) (fun j hj => g3 j (by omega)) i, g4, Er_app_rep]
  · have := g5 e (List.mem_of_mem_take he)
    have hmul : (pb + 1) * (row.length + n - k) ≤ (pb + 1) * 1000 := Nat.mul_le_mul_left _ (by omega)
    omega
/-! ### products -/
def mzi (poly : List Int) (k : Nat) : Nat → Ve → Ve
  | 0, v => v
  | n + 1, v => mz poly k (mzi poly k n v)
theorem mzi_ext {u v : Ve} (h : ∀ i, u i = v i) (n i : Nat) : mzi poly k n u i = mzi poly k n v i := by rw [show u = v from funext h]
theorem mzi_zp (n : Nat) : ∀ j i, mzi poly k n (zp poly k j) i = zp poly k (j + n) i := by
  induction n with
  | zero => exact fun _ _ => rfl
  | succ n ih => exact fun j i => mz_ext (ih j) i
theorem mzi_lin {u v w : Ve} {a b : Int} (h : ∀ i, w i = a * u i + b * v i) : ∀ n i, mzi poly k n w i = a * mzi poly k n u i + b * mzi poly k n v i
  | 0, i => h i
  | n + 1, i => mz_lin (mzi_lin h n) i
theorem mzi_succ (n : Nat) : ∀ (v : Ve) (i : Nat), mzi poly k n (mz poly k v) i = mzi poly k (n + 1) v i := by
  induction n with
  | zero => exact fun _ _ => rfl
  | succ n ih => exact fun v i => mz_ext (ih v) i
theorem pr_len (e : Int) (a : Nat) (f : List Int) (l : List (Int × Nat)) : (l.foldl (prI e a) f).length = f.length := by
  induction l generalizing f with
  | nil => rfl
  | cons q r ih => rw [List.foldl_cons, ih, prI_len]
theorem pr_Er {e : Int} {a : Nat} : ∀ (l : List (Int × Nat)) (f : List Int), (∀ q ∈ l, a + q.2 < f.length) → ∀ i, Er poly k (l.foldl (prI e a) f) i = Er poly k f i + sv l (fun q i => e * q.1 * zp poly k (a + q.2) i) i
  | [], _, _, i => by rw [sv_nil]; exact (Int.add_zero _).symm
  | q :: r, f, h, i => by
    rw [List.foldl_cons, pr_Er r _ (fun x hx => by rw [prI_len]; exact h x (List.mem_cons_of_mem _ hx)), sv_cons]
    unfold prI
    rw [Er_add _ _ _ (h q (List.mem_cons_self ..))]
    omega
theorem bb.add {m : Nat} {f : List Int} {j : Nat} {v : Int} (h : bb m f) (hv : Builtin.Int.intBits v ≤ m) : bb (m + 1) (addAt f j v) := fun e he => by
  unfold addAt at he
  rcases List.mem_or_eq_of_mem_set he with he | rfl
  · have := h e he
    omega
  · have := intBits_add_le (h.at j) hv
    omega
theorem pr_bb {e : Int} {a c d : Nat} (he : Builtin.Int.intBits e ≤ c) : ∀ (l : List (Int × Nat)) (f : List Int) (m : Nat), c + d ≤ m → (∀ q ∈ l, Builtin.Int.intBits q.1 ≤ d) → bb m f → bb (m + l.length) (l.foldl (prI e a) f)
  | [], _, _, _, _, hb => hb
  | q :: r, f, m, hm, h, hb => by
    rw [List.foldl_cons, List.length_cons]
    have h1 : bb (m + 1) (prI e a f q) := hb.add (Nat.le_trans (intBits_mul_le he (h q (List.mem_cons_self ..))) hm)
    exact (pr_bb he r _ (m + 1) (by omega) (fun x hx => h x (List.mem_cons_of_mem _ hx)) h1).mono (by omega)
/-- the product of two rows, as a vector -/
def Cv (poly : List Int) (k : Nat) (one other : List Int) : Ve := sv one.zipIdx fun p => sv other.zipIdx fun q i => p.1 * q.1 * zp poly k (p.2 + q.2) i
theorem lt_Er {other : List Int} : ∀ (l : List (Int × Nat)) (f : List Int), (∀ p ∈ l, ∀ q ∈ other.zipIdx, p.2 + q.2 < f.length) → ∀ i, Er poly k (l.foldl (ltO other) f) i = Er poly k f i + sv l (fun p => sv other.zipIdx fun q i => p.1 * q.1 * zp poly k (p.2 + q.2) i) i
  | [], _, _, i => by rw [sv_nil]; exact (Int.add_zero _).symm
  | p :: r, f, h, i => by
    have hl : (ltO other f p).length = f.length := pr_len _ _ _ _
    rw [List.foldl_cons, lt_Er r _ (fun x hx => by rw [hl]; exact h x (List.mem_cons_of_mem _ hx)), sv_cons]
    unfold ltO
    rw [pr_Er _ _ (h p (List.mem_cons_self ..))]
    omega
theorem pO_Er {other : List Int} : ∀ (l : List (Int × Nat)) (f : List Int), (∀ p ∈ l, ∀ q ∈ other.zipIdx, p.2 + q.2 < f.length) → ∀ i, Er poly k (l.foldl (prO other) f) i = Er poly k f i + sv l (fun p => sv other.zipIdx fun q i => p.1 * q.1 * zp poly k (p.2 + q.2) i) i
  | [], _, _, i => by rw [sv_nil]; exact (Int.add_zero _).symm
  | p :: r, f, h, i => by
    have hl : (prO other f p).length = f.length := by
      unfold prO
      split
      · rfl
      · exact pr_len _ _ _ _
    rw [List.foldl_cons, pO_Er r _ (fun x hx => by rw [hl]; exact h x (List.mem_cons_of_mem _ hx)), sv_cons]
    unfold prO
    by_cases h0 : p.1 = 0
    · rw [if_pos h0]
      have z : sv other.zipIdx (fun q i => p.1 * q.1 * zp poly k (p.2 + q.2) i) i = 0 := by
        rw [sv_ext (h := fun _ _ => 0) i (fun q _ => by rw [h0]; simp)]
        unfold sv
        induction other.zipIdx with
        | nil => rfl
        | cons a b ih => rw [List.map_cons, List.sum_cons, ih]; rfl
      rw [z]
      omega
    · rw [if_neg h0, pr_Er _ _ (h p (List.mem_cons_self ..))]
      omega
theorem zipIdx_lt {α : Type} {l : List α} {x : α × Nat} (h : x ∈ l.zipIdx) : x.2 < l.length := by
  obtain ⟨v, i⟩ := x
  rw [List.mem_zipIdx_iff_getElem?] at h
  exact (List.getElem?_eq_some_iff.mp h).1
theorem zipIdx_in {α : Type} {l : List α} {x : α × Nat} (h : x ∈ l.zipIdx) : x.1 ∈ l := by
  obtain ⟨v, i⟩ := x
  rw [List.mem_zipIdx_iff_getElem?] at h
  exact List.mem_of_getElem? h
theorem ltM_Er (one other : List Int) (i : Nat) : Er poly k (ltM one other) i = Cv poly k one other i := by
  unfold ltM
  rw [lt_Er, Er_rep, Int.zero_add]
  · rfl
  · intro p hp q hq
    have := zipIdx_lt hp
    have := zipIdx_lt hq
    rw [List.length_replicate]
    omega
theorem prM_Er {size : Nat} {one other : List Int} (h1 : one.length ≤ size) (h2 : other.length ≤ size) (i : Nat) : Er poly k (prM size one other) i = Cv poly k one other i := by
  unfold prM
  rw [pO_Er, Er_rep, Int.zero_add]
  · rfl
  · intro p hp q hq
    have := zipIdx_lt hp
    have := zipIdx_lt hq
    rw [List.length_replicate]
    omega
theorem lt_bb {other : List Int} {c d : Nat} (ho : bb d other) : ∀ (l : List (Int × Nat)) (f : List Int) (m : Nat), c + d ≤ m → (∀ q ∈ l, Builtin.Int.intBits q.1 ≤ c) → bb m f → bb (m + l.length * other.length) (l.foldl (ltO other) f)
  | [], _, _, _, _, hb => hb.mono (by omega)
  | q :: r, f, m, hm, h, hb => by
    rw [List.foldl_cons, List.length_cons, Nat.add_mul, Nat.one_mul]
    have h1 := pr_bb (a := q.2) (c := c) (d := d) (h q (List.mem_cons_self ..)) other.zipIdx f m hm (fun x hx => ho _ (zipIdx_in hx)) hb
    rw [List.length_zipIdx] at h1
    exact (lt_bb ho r _ _ (by omega) (fun x hx => h x (List.mem_cons_of_mem _ hx)) h1).mono (by omega)
theorem ltM_len (one other : List Int) : (ltM one other).length = one.length + other.length := by
  unfold ltM
  have : ∀ (l : List (Int × Nat)) (f : List Int), (l.foldl (ltO other) f).length = f.length := by
    intro l
    induction l with
    | nil => exact fun _ => rfl
    | cons q r ih => intro f; rw [List.foldl_cons, ih]; exact pr_len _ _ _ _
  rw [this, List.length_replicate]
theorem ltM_bb {one other : List Int} {c d : Nat} (h1 : bb c one) (h2 : bb d other) : bb (c + d + one.length * other.length) (ltM one other) := by
  unfold ltM
  have := lt_bb (c := c) h2 one.zipIdx (List.replicate (one.length + other.length) 0) (c + d) (Nat.le_refl _) (fun q hq => h1 _ (zipIdx_in hq)) (fun e he => by
    rw [(List.mem_replicate.mp he).2]
    have : Builtin.Int.intBits 0 = 0 := by decide
    omega)
  rw [List.length_zipIdx] at this
  exact this
/-- a sum of powers -/
theorem sv_pow {a : Nat} : ∀ (u : List Int) (s i : Nat), sv (u.zipIdx s) (fun q i => q.1 * zp poly k (a + q.2) i) i = mzi poly k (a + s) (Er poly k u) i
  | [], s, i => by
    rw [List.zipIdx_nil, sv_nil]
    have : ∀ n i, mzi poly k n (Er poly k []) i = 0 := by
      intro n
      induction n with
      | zero => exact fun _ => rfl
      | succ n ih => intro i; show mz poly k _ i = 0; rw [mz_ext ih, mz_zero]
    rw [this]
  | x :: r, s, i => by
    rw [List.zipIdx_cons, sv_cons, sv_pow r (s + 1) i]
    rw [mzi_lin (w := Er poly k (x :: r)) (u := zp poly k 0) (v := mz poly k (Er poly k r)) (a := x) (b := 1) (fun i => by rw [Int.one_mul]; rfl), mzi_zp, mzi_succ, Nat.zero_add, Int.one_mul]
    rfl
theorem Cv_eq (one other : List Int) (i : Nat) : Cv poly k one other i = sv one.zipIdx (fun p i => p.1 * mzi poly k p.2 (Er poly k other) i) i := by
  unfold Cv
  refine sv_ext i fun p _ => ?_
  have h := sv_pow (poly := poly) (k := k) (a := p.2) other 0 i
  rw [Nat.add_zero] at h
  rw [← h]
  unfold sv
  generalize other.zipIdx = l
  induction l with
  | nil => simp
  | cons q r ih =>
    rw [List.map_cons, List.sum_cons, List.map_cons, List.sum_cons, ih, Int.mul_add]
    dsimp only
    rw [Int.mul_assoc]
/-- times a power of z -/
theorem Cv_unit {one other : List Int} {m : Nat} (h : ∀ i, Er poly k other i = zp poly k m i) (i : Nat) : Cv poly k one other i = mzi poly k m (Er poly k one) i := by
  rw [Cv_eq]
  have e : sv one.zipIdx (fun p i => p.1 * mzi poly k p.2 (Er poly k other) i) i = sv one.zipIdx (fun p i => p.1 * zp poly k (m + p.2) i) i := sv_ext i fun p _ => by
    rw [mzi_ext h, mzi_zp]
  rw [e]
  have := sv_pow (poly := poly) (k := k) (a := m) one 0 i
  exact this
/-- the row of a power of z -/
theorem Er_pow : ∀ (m i : Nat), Er poly k (List.replicate m 0 ++ [1]) i = zp poly k m i
  | 0, i => by
    show 1 * ev 0 i + mz poly k (fun _ => 0) i = ev 0 i
    rw [mz_zero]
    omega
  | m + 1, i => by
    rw [List.replicate_succ]
    show 0 * ev 0 i + mz poly k (Er poly k (List.replicate m 0 ++ [1])) i = mz poly k (zp poly k m) i
    rw [mz_ext (Er_pow m)]
    omega
/-- the polynomial at z, times anything, is 0 -/
theorem mzi_poly (M : Mo poly k) : ∀ (l : List Int) (i : Nat), sv (List.range (k + 1)) (fun p i => poly.getD p 0 * mzi poly k p (Er poly k l) i) i = 0
  | [], i => by
    have : ∀ n i, mzi poly k n (Er poly k []) i = 0 := by
      intro n
      induction n with
      | zero => exact fun _ => rfl
      | succ n ih => intro i; show mz poly k _ i = 0; rw [mz_ext ih, mz_zero]
    unfold sv
    have e : (List.range (k + 1)).map (fun p => poly.getD p 0 * mzi poly k p (Er poly k []) i) = (List.range (k + 1)).map fun _ => (0 : Int) := List.map_congr_left fun p _ => by rw [this]; omega
    rw [e]
    induction List.range (k + 1) with
    | nil => rfl
    | cons a b ih => rw [List.map_cons, List.sum_cons, ih]; rfl
  | a :: r, i => by
    have h1 : ∀ i, sv (List.range (k + 1)) (fun p i => poly.getD p 0 * mzi poly k p (Er poly k (a :: r)) i) i = a * sv (List.range (k + 1)) (fun p i => poly.getD p 0 * zp poly k (0 + p) i) i + sv (List.range (k + 1)) (fun p => mz poly k fun i => poly.getD p 0 * mzi poly k p (Er poly k r) i) i := by
      intro i
      unfold sv
      induction List.range (k + 1) with
      | nil => simp
      | cons p t ih =>
        rw [List.map_cons, List.sum_cons, List.map_cons, List.sum_cons, List.map_cons, List.sum_cons, ih]
        dsimp only
        rw [mzi_lin (w := Er poly k (a :: r)) (u := zp poly k 0) (v := mz poly k (Er poly k r)) (a := a) (b := 1) (fun i => by rw [Int.one_mul]; rfl), mzi_zp, mzi_succ]
        rw [mz_smul (u := mzi poly k p (Er poly k r)) (a := poly.getD p 0) (fun _ => rfl)]
        rw [Int.mul_add, Int.mul_add, Int.one_mul, Int.mul_left_comm]
        show a * (poly.getD p 0 * zp poly k (0 + p) i) + poly.getD p 0 * mz poly k (mzi poly k p (Er poly k r)) i + _ = _
        omega
    rw [h1, poly_zero M, ← sv_mz, mz_ext (mzi_poly M r), mz_zero]
    omega
/-- rows that are closed under z -/
def Zc (poly : List Int) (k : Nat) (rows : List (List Int)) : Prop := ∀ v, In rows v → In rows (mz poly k v)
theorem Zc.of {rows : List (List Int)} (h : ∀ r ∈ rows, In rows (mz poly k (vec r))) : Zc poly k rows := fun v hv => by
  induction hv with
  | zero hz => exact .zero fun i => by rw [mz_ext hz, mz_zero]
  | @step u v w c hs _ hw ih =>
    obtain ⟨r, hr, rfl⟩ := hs
    exact Sp.lin c 1 (h r hr) ih (mz_lin fun i => by rw [hw]; omega)
theorem Zc.eqv {A B : List (List Int)} (h : Zc poly k A) (e : Eqv A B) : Zc poly k B := fun v hv => (e _).1 (h v ((e v).2 hv))
theorem sv_in {rows : List (List Int)} {α : Type} {g : α → Ve} : ∀ (l : List α), (∀ x ∈ l, In rows (g x)) → In rows (sv l g)
  | [], _ => .zero fun _ => rfl
  | x :: l, h => Sp.lin 1 1 (h x (List.mem_cons_self ..)) (sv_in l fun y hy => h y (List.mem_cons_of_mem _ hy)) fun i => by rw [sv_cons]; omega
/-- members, each times all powers of z -/
theorem Zc.mem {members : List (List Int)} {tm : List Int → Nat → List Int} (M : Mo poly k) (h : ∀ x ∈ members, ∀ m, m < k → ∀ i, vec (tm x m) i = mzi poly k m (Er poly k x) i) : Zc poly k (members.flatMap fun x => (List.range k).map (tm x)) := by
  have hk := M.pos
  have mem : ∀ x ∈ members, ∀ m, m < k → In (members.flatMap fun x => (List.range k).map (tm x)) (mzi poly k m (Er poly k x)) := fun x hx m hm =>
    (In.mem (r := tm x m) (List.mem_flatMap.mpr ⟨x, hx, show tm x m ∈ (List.range k).map (tm x) from List.mem_map.mpr ⟨m, List.mem_range.mpr hm, rfl⟩⟩)).ext fun i => (h x hx m hm i).symm
  refine Zc.of fun r hr => ?_
  obtain ⟨x, hx, hr⟩ := List.mem_flatMap.mp hr
  obtain ⟨m, hm, rfl⟩ := List.mem_map.mp hr
  have hm := List.mem_range.mp hm
  have e : ∀ i, mz poly k (vec (tm x m)) i = mzi poly k (m + 1) (Er poly k x) i := fun i => mz_ext (h x hx m hm) i
  by_cases hk2 : m + 1 < k
  · exact (mem x hx (m + 1) hk2).ext e
  · have ek : m + 1 = k := by omega
    have hs := sv_in (rows := members.flatMap fun x => (List.range k).map (tm x)) (g := fun p i => poly.getD p 0 * mzi poly k p (Er poly k x) i) (List.range k) fun p hp => Sp.smul _ (mem x hx p (List.mem_range.mp hp)) fun _ => rfl
    refine Sp.smul (-1) hs fun i => ?_
    have z := mzi_poly M x i
    rw [List.range_succ, sv_app, sv_cons, sv_nil, M.top] at z
    rw [e, ek]
    omega
end
end Q
end

/-! text MJ -/
section
set_option Elab.async false
set_option linter.all false
/-! norms: a number other than 0 among the multiples of a turn number other than 0 -/
namespace Q
theorem sq_nn (a : Int) : 0 ≤ a * a := by
  rcases Int.le_total 0 a with h | h
  · exact Int.mul_nonneg h h
  · have := Int.mul_nonneg (show 0 ≤ -a by omega) (show 0 ≤ -a by omega)
    rw [Int.neg_mul_neg] at this
    exact this
theorem sq_zero {a : Int} (h : a * a ≤ 0) : a = 0 := by
  have := sq_nn a
  have e : a * a = 0 := by omega
  rcases Int.mul_eq_zero.mp e with h | h <;> exact h
theorem sq_sub (a b : Int) : 0 ≤ a * a - 2 * (a * b) + b * b := by
  have := sq_nn (a - b)
  have e : (a - b) * (a - b) = a * a - 2 * (a * b) + b * b := by grind
  omega
theorem sq_add (a b : Int) : 0 ≤ a * a + 2 * (a * b) + b * b := by
  have := sq_nn (a + b)
  have e : (a + b) * (a + b) = a * a + 2 * (a * b) + b * b := by grind
  omega
/-- a product of bounded numbers -/
theorem mulb {a b : Int} {A B : Int} (ha : -A ≤ a ∧ a ≤ A) (hb : -B ≤ b ∧ b ≤ B) : -(A * B) ≤ a * b ∧ a * b ≤ A * B := by
  have hA : 0 ≤ A := by omega
  have h : (a * b).natAbs ≤ (A * B).natAbs := by
    rw [Int.natAbs_mul, Int.natAbs_mul]
    exact Nat.mul_le_mul (by omega) (by omega)
  have : 0 ≤ A * B := Int.mul_nonneg hA (by omega)
  omega
theorem desc2 {F : Int → Int → Int} (hom : ∀ a b, F (2 * a) (2 * b) = 4 * F a b) (he : ∀ u v, F u v = 0 → u % 2 = 0 ∧ v % 2 = 0) : ∀ (n : Nat) (u v : Int), u.natAbs + v.natAbs ≤ n → F u v = 0 → u = 0 ∧ v = 0 := by
  intro n
  induction n using Nat.strongRecOn with
  | _ n ih =>
    intro u v hn h
    by_cases h0 : u = 0 ∧ v = 0
    · exact h0
    · obtain ⟨e1, e2⟩ := he u v h
      obtain ⟨a, rfl⟩ : ∃ a, u = 2 * a := ⟨u / 2, by omega⟩
      obtain ⟨b, rfl⟩ : ∃ b, v = 2 * b := ⟨v / 2, by omega⟩
      rw [hom] at h
      have := ih (a.natAbs + b.natAbs) (by omega) a b (Nat.le_refl _) (by omega)
      omega
theorem desc3 {F : Int → Int → Int → Int} (hom : ∀ a b c, F (2 * a) (2 * b) (2 * c) = 8 * F a b c) (he : ∀ u v w, F u v w = 0 → u % 2 = 0 ∧ v % 2 = 0 ∧ w % 2 = 0) : ∀ (n : Nat) (u v w : Int), u.natAbs + v.natAbs + w.natAbs ≤ n → F u v w = 0 → u = 0 ∧ v = 0 ∧ w = 0 := by
  intro n
  induction n using Nat.strongRecOn with
  | _ n ih =>
    intro u v w hn h
    by_cases h0 : u = 0 ∧ v = 0 ∧ w = 0
    · exact h0
    · obtain ⟨e1, e2, e3⟩ := he u v w h
      obtain ⟨a, rfl⟩ : ∃ a, u = 2 * a := ⟨u / 2, by omega⟩
      obtain ⟨b, rfl⟩ : ∃ b, v = 2 * b := ⟨v / 2, by omega⟩
      obtain ⟨c, rfl⟩ : ∃ c, w = 2 * c := ⟨w / 2, by omega⟩
      rw [hom] at h
      have := ih (a.natAbs + b.natAbs + c.natAbs) (by omega) a b c (Nat.le_refl _) (by omega)
      omega
theorem par (u : Int) : u % 2 = 0 ∨ u % 2 = 1 := by omega
theorem n5 : ∀ u v : Int, u * u - u * v - v * v = 0 → u = 0 ∧ v = 0 := fun u v h =>
  desc2 (F := fun u v => u * u - u * v - v * v) (fun a b => by grind) (fun u v h => by
    have q : (u * u - u * v - v * v) % 2 = 0 := by rw [h]; rfl
    rcases par u with hu | hu <;> rcases par v with hv | hv <;> simp [Int.sub_emod, Int.mul_emod, hu, hv] at q ⊢) _ u v (Nat.le_refl _) h
theorem n2 : ∀ u v : Int, u * u - 2 * (v * v) = 0 → u = 0 ∧ v = 0 := fun u v h =>
  desc2 (F := fun u v => u * u - 2 * (v * v)) (fun a b => by grind) (fun u v h => by
    have hu : u % 2 = 0 := by
      have q : (u * u - 2 * (v * v)) % 2 = 0 := by rw [h]; rfl
      rcases par u with hu | hu
      · exact hu
      · simp [Int.sub_emod, Int.mul_emod, hu] at q
    obtain ⟨a, rfl⟩ : ∃ a, u = 2 * a := ⟨u / 2, by omega⟩
    refine ⟨hu, ?_⟩
    have e : 2 * a * (2 * a) = 4 * (a * a) := by grind
    have q : (v * v) % 2 = 0 := by omega
    rcases par v with hv | hv
    · exact hv
    · simp [Int.mul_emod, hv] at q) _ u v (Nat.le_refl _) h
theorem n3 : ∀ u v : Int, u * u - 3 * (v * v) = 0 → u = 0 ∧ v = 0 := fun u v h =>
  desc2 (F := fun u v => u * u - 3 * (v * v)) (fun a b => by grind) (fun u v h => by
    have s : ∀ x : Int, (x * x) % 4 = if x % 2 = 0 then 0 else 1 := fun x => by
      rcases par x with hx | hx
      · obtain ⟨a, rfl⟩ : ∃ a, x = 2 * a := ⟨x / 2, by omega⟩
        have e : 2 * a * (2 * a) = 4 * (a * a) := by grind
        rw [e, if_pos hx]
        omega
      · obtain ⟨a, rfl⟩ : ∃ a, x = 2 * a + 1 := ⟨x / 2, by omega⟩
        have e : (2 * a + 1) * (2 * a + 1) = 4 * (a * a + a) + 1 := by grind
        rw [e, if_neg (by omega)]
        omega
    have s1 := s u
    have s2 := s v
    rcases par u with hu | hu <;> rcases par v with hv | hv <;> simp [hu, hv] at s1 s2 ⊢ <;> omega) _ u v (Nat.le_refl _) h
/-! the cubic norms -/
def v70 (a b c : Int) : Int := a * a + b * c - a * b - a * c - c * c
def v71 (a b c : Int) : Int := b * b + b * c - a * b - c * c
def v72 (a b c : Int) : Int := b * b - a * c - b * c
def nm7 (a b c : Int) : Int := a * a * a + 3 * (a * b * c) + b * b * b + 3 * (b * b * c) + c * c * c - a * a * b - a * a * c - 2 * (a * b * b) - 2 * (a * c * c) - 4 * (b * c * c)
def v90 (a b c : Int) : Int := a * a + b * c - b * b - c * c
def v91 (a b c : Int) : Int := 2 * (b * c) - a * b - c * c
def v92 (a b c : Int) : Int := b * b - a * c - c * c
def nm9 (a b c : Int) : Int := a * a * a + 3 * (a * b * c) + 6 * (b * b * c) - 3 * (a * b * b) - 3 * (a * c * c) - b * b * b - 3 * (b * c * c) - c * c * c
theorem n7 : ∀ u v w : Int, nm7 u v w = 0 → u = 0 ∧ v = 0 ∧ w = 0 := fun u v w h =>
  desc3 (F := nm7) (fun a b c => by unfold nm7; grind) (fun u v w h => by
    have q : nm7 u v w % 2 = 0 := by rw [h]; rfl
    unfold nm7 at q
    rcases par u with hu | hu <;> rcases par v with hv | hv <;> rcases par w with hw | hw <;> simp [Int.sub_emod, Int.add_emod, Int.mul_emod, hu, hv, hw] at q ⊢) _ u v w (Nat.le_refl _) h
theorem n9 : ∀ u v w : Int, nm9 u v w = 0 → u = 0 ∧ v = 0 ∧ w = 0 := fun u v w h =>
  desc3 (F := nm9) (fun a b c => by unfold nm9; grind) (fun u v w h => by
    have q : nm9 u v w % 2 = 0 := by rw [h]; rfl
    unfold nm9 at q
    rcases par u with hu | hu <;> rcases par v with hv | hv <;> rcases par w with hw | hw <;> simp [Int.sub_emod, Int.add_emod, Int.mul_emod, hu, hv, hw] at q ⊢) _ u v w (Nat.le_refl _) h
theorem b7 {a b c A : Int} (ha : -A ≤ a ∧ a ≤ A) (hb : -A ≤ b ∧ b ≤ A) (hc : -A ≤ c ∧ c ≤ A) : (nm7 a b c).natAbs ≤ (30 * (A * A * A)).natAbs := by
  have m3 : ∀ x y z : Int, (-A ≤ x ∧ x ≤ A) → (-A ≤ y ∧ y ≤ A) → (-A ≤ z ∧ z ≤ A) → -(A * A * A) ≤ x * y * z ∧ x * y * z ≤ A * A * A := fun x y z hx hy hz => mulb (mulb hx hy) hz
  have h1 := m3 a a a ha ha ha
  have h2 := m3 a b c ha hb hc
  have h3 := m3 b b b hb hb hb
  have h4 := m3 b b c hb hb hc
  have h5 := m3 c c c hc hc hc
  have h6 := m3 a a b ha ha hb
  have h7 := m3 a a c ha ha hc
  have h8 := m3 a b b ha hb hb
  have h9 := m3 a c c ha hc hc
  have h0 := m3 b c c hb hc hc
  unfold nm7
  omega
theorem b9 {a b c A : Int} (ha : -A ≤ a ∧ a ≤ A) (hb : -A ≤ b ∧ b ≤ A) (hc : -A ≤ c ∧ c ≤ A) : (nm9 a b c).natAbs ≤ (30 * (A * A * A)).natAbs := by
  have m3 : ∀ x y z : Int, (-A ≤ x ∧ x ≤ A) → (-A ≤ y ∧ y ≤ A) → (-A ≤ z ∧ z ≤ A) → -(A * A * A) ≤ x * y * z ∧ x * y * z ≤ A * A * A := fun x y z hx hy hz => mulb (mulb hx hy) hz
  have h1 := m3 a a a ha ha ha
  have h2 := m3 a b c ha hb hc
  have h3 := m3 b b b hb hb hb
  have h4 := m3 b b c hb hb hc
  have h5 := m3 c c c hc hc hc
  have h6 := m3 a a b ha ha hb
  have h7 := m3 a a c ha ha hc
  have h8 := m3 a b b ha hb hb
  have h9 := m3 a c c ha hc hc
  have h0 := m3 b c c hb hc hc
  unfold nm9
  omega
theorem cast2 {rs : List (List Int)} {a0 a1 b0 b1 : Int} (h : In rs (vec [a0, a1])) (h0 : b0 = a0) (h1 : b1 = a1) : In rs (vec [b0, b1]) := by
  rw [h0, h1]
  exact h
theorem lin2 {rs : List (List Int)} {a0 a1 b0 b1 : Int} (s t : Int) (h : In rs (vec [a0, a1])) (g : In rs (vec [b0, b1])) : In rs (vec [s * a0 + t * b0, s * a1 + t * b1]) := Sp.lin s t h g fun i => match i with
  | 0 => rfl
  | 1 => rfl
  | n + 2 => by show (0 : Int) = s * 0 + t * 0; omega
theorem unit2 {rs : List (List Int)} {a : Int} (h : In rs (vec [a, 0])) : In rs (fun i => a * ev 0 i) := h.ext fun i => match i with
  | 0 => Int.mul_one a
  | 1 => Int.mul_zero a
  | n + 2 => Int.mul_zero a
theorem cast4 {rs : List (List Int)} {a0 a1 a2 a3 b0 b1 b2 b3 : Int} (h : In rs (vec [a0, a1, a2, a3])) (h0 : b0 = a0) (h1 : b1 = a1) (h2 : b2 = a2) (h3 : b3 = a3) : In rs (vec [b0, b1, b2, b3]) := by
  rw [h0, h1, h2, h3]
  exact h
theorem lin4 {rs : List (List Int)} {a0 a1 a2 a3 b0 b1 b2 b3 : Int} (s t : Int) (h : In rs (vec [a0, a1, a2, a3])) (g : In rs (vec [b0, b1, b2, b3])) : In rs (vec [s * a0 + t * b0, s * a1 + t * b1, s * a2 + t * b2, s * a3 + t * b3]) := Sp.lin s t h g fun i => match i with
  | 0 => rfl
  | 1 => rfl
  | 2 => rfl
  | 3 => rfl
  | n + 4 => by show (0 : Int) = s * 0 + t * 0; omega
theorem unit4 {rs : List (List Int)} {a : Int} (h : In rs (vec [a, 0, 0, 0])) : In rs (fun i => a * ev 0 i) := h.ext fun i => match i with
  | 0 => Int.mul_one a
  | 1 => Int.mul_zero a
  | 2 => Int.mul_zero a
  | 3 => Int.mul_zero a
  | n + 4 => Int.mul_zero a
theorem cast6 {rs : List (List Int)} {a0 a1 a2 a3 a4 a5 b0 b1 b2 b3 b4 b5 : Int} (h : In rs (vec [a0, a1, a2, a3, a4, a5])) (h0 : b0 = a0) (h1 : b1 = a1) (h2 : b2 = a2) (h3 : b3 = a3) (h4 : b4 = a4) (h5 : b5 = a5) : In rs (vec [b0, b1, b2, b3, b4, b5]) := by
  rw [h0, h1, h2, h3, h4, h5]
  exact h
theorem lin6 {rs : List (List Int)} {a0 a1 a2 a3 a4 a5 b0 b1 b2 b3 b4 b5 : Int} (s t : Int) (h : In rs (vec [a0, a1, a2, a3, a4, a5])) (g : In rs (vec [b0, b1, b2, b3, b4, b5])) : In rs (vec [s * a0 + t * b0, s * a1 + t * b1, s * a2 + t * b2, s * a3 + t * b3, s * a4 + t * b4, s * a5 + t * b5]) := Sp.lin s t h g fun i => match i with
  | 0 => rfl
  | 1 => rfl
  | 2 => rfl
  | 3 => rfl
  | 4 => rfl
  | 5 => rfl
  | n + 6 => by show (0 : Int) = s * 0 + t * 0; omega
theorem unit6 {rs : List (List Int)} {a : Int} (h : In rs (vec [a, 0, 0, 0, 0, 0])) : In rs (fun i => a * ev 0 i) := h.ext fun i => match i with
  | 0 => Int.mul_one a
  | 1 => Int.mul_zero a
  | 2 => Int.mul_zero a
  | 3 => Int.mul_zero a
  | 4 => Int.mul_zero a
  | 5 => Int.mul_zero a
  | n + 6 => Int.mul_zero a
def po3 : List Int := [1, 1, 1]
theorem mo3 : Mo po3 2 := ⟨rfl, rfl, by omega⟩
theorem z3 {rs : List (List Int)} (Z : Zc po3 2 rs) {a b : Int} (h : In rs (vec [a, b])) : In rs (vec [-b, a - b]) := (Z _ h).ext fun i => match i with
  | 0 => by show -b = 0 - b * (1 : Int); omega
  | 1 => by show a - b = a - b * (1 : Int); omega
  | m + 2 => by show (0 : Int) = mz po3 2 (vec [a, b]) (m + 2); exact (mz_out (by omega)).symm
def po4 : List Int := [1, 0, 1]
theorem mo4 : Mo po4 2 := ⟨rfl, rfl, by omega⟩
theorem z4 {rs : List (List Int)} (Z : Zc po4 2 rs) {a b : Int} (h : In rs (vec [a, b])) : In rs (vec [-b, a]) := (Z _ h).ext fun i => match i with
  | 0 => by show -b = 0 - b * (1 : Int); omega
  | 1 => by show a = a - b * (0 : Int); omega
  | m + 2 => by show (0 : Int) = mz po4 2 (vec [a, b]) (m + 2); exact (mz_out (by omega)).symm
def po6 : List Int := [1, -1, 1]
theorem mo6 : Mo po6 2 := ⟨rfl, rfl, by omega⟩
theorem z6 {rs : List (List Int)} (Z : Zc po6 2 rs) {a b : Int} (h : In rs (vec [a, b])) : In rs (vec [-b, a + b]) := (Z _ h).ext fun i => match i with
  | 0 => by show -b = 0 - b * (1 : Int); omega
  | 1 => by show a + b = a - b * (-1 : Int); omega
  | m + 2 => by show (0 : Int) = mz po6 2 (vec [a, b]) (m + 2); exact (mz_out (by omega)).symm
def po5 : List Int := [1, 1, 1, 1, 1]
theorem mo5 : Mo po5 4 := ⟨rfl, rfl, by omega⟩
theorem z5 {rs : List (List Int)} (Z : Zc po5 4 rs) {a b c d : Int} (h : In rs (vec [a, b, c, d])) : In rs (vec [-d, a - d, b - d, c - d]) := (Z _ h).ext fun i => match i with
  | 0 => by show -d = 0 - d * (1 : Int); omega
  | 1 => by show a - d = a - d * (1 : Int); omega
  | 2 => by show b - d = b - d * (1 : Int); omega
  | 3 => by show c - d = c - d * (1 : Int); omega
  | m + 4 => by show (0 : Int) = mz po5 4 (vec [a, b, c, d]) (m + 4); exact (mz_out (by omega)).symm
def po8 : List Int := [1, 0, 0, 0, 1]
theorem mo8 : Mo po8 4 := ⟨rfl, rfl, by omega⟩
theorem z8 {rs : List (List Int)} (Z : Zc po8 4 rs) {a b c d : Int} (h : In rs (vec [a, b, c, d])) : In rs (vec [-d, a, b, c]) := (Z _ h).ext fun i => match i with
  | 0 => by show -d = 0 - d * (1 : Int); omega
  | 1 => by show a = a - d * (0 : Int); omega
  | 2 => by show b = b - d * (0 : Int); omega
  | 3 => by show c = c - d * (0 : Int); omega
  | m + 4 => by show (0 : Int) = mz po8 4 (vec [a, b, c, d]) (m + 4); exact (mz_out (by omega)).symm
def po10 : List Int := [1, -1, 1, -1, 1]
theorem mo10 : Mo po10 4 := ⟨rfl, rfl, by omega⟩
theorem z10 {rs : List (List Int)} (Z : Zc po10 4 rs) {a b c d : Int} (h : In rs (vec [a, b, c, d])) : In rs (vec [-d, a + d, b - d, c + d]) := (Z _ h).ext fun i => match i with
  | 0 => by show -d = 0 - d * (1 : Int); omega
  | 1 => by show a + d = a - d * (-1 : Int); omega
  | 2 => by show b - d = b - d * (1 : Int); omega
  | 3 => by show c + d = c - d * (-1 : Int); omega
  | m + 4 => by show (0 : Int) = mz po10 4 (vec [a, b, c, d]) (m + 4); exact (mz_out (by omega)).symm
def po12 : List Int := [1, 0, -1, 0, 1]
theorem mo12 : Mo po12 4 := ⟨rfl, rfl, by omega⟩
theorem z12 {rs : List (List Int)} (Z : Zc po12 4 rs) {a b c d : Int} (h : In rs (vec [a, b, c, d])) : In rs (vec [-d, a, b + d, c]) := (Z _ h).ext fun i => match i with
  | 0 => by show -d = 0 - d * (1 : Int); omega
  | 1 => by show a = a - d * (0 : Int); omega
  | 2 => by show b + d = b - d * (-1 : Int); omega
  | 3 => by show c = c - d * (0 : Int); omega
  | m + 4 => by show (0 : Int) = mz po12 4 (vec [a, b, c, d]) (m + 4); exact (mz_out (by omega)).symm
def po7 : List Int := [1, 1, 1, 1, 1, 1, 1]
theorem mo7 : Mo po7 6 := ⟨rfl, rfl, by omega⟩
theorem z7 {rs : List (List Int)} (Z : Zc po7 6 rs) {a b c d e f : Int} (h : In rs (vec [a, b, c, d, e, f])) : In rs (vec [-f, a - f, b - f, c - f, d - f, e - f]) := (Z _ h).ext fun i => match i with
  | 0 => by show -f = 0 - f * (1 : Int); omega
  | 1 => by show a - f = a - f * (1 : Int); omega
  | 2 => by show b - f = b - f * (1 : Int); omega
  | 3 => by show c - f = c - f * (1 : Int); omega
  | 4 => by show d - f = d - f * (1 : Int); omega
  | 5 => by show e - f = e - f * (1 : Int); omega
  | m + 6 => by show (0 : Int) = mz po7 6 (vec [a, b, c, d, e, f]) (m + 6); exact (mz_out (by omega)).symm
def po9 : List Int := [1, 0, 0, 1, 0, 0, 1]
theorem mo9 : Mo po9 6 := ⟨rfl, rfl, by omega⟩
theorem z9 {rs : List (List Int)} (Z : Zc po9 6 rs) {a b c d e f : Int} (h : In rs (vec [a, b, c, d, e, f])) : In rs (vec [-f, a, b, c - f, d, e]) := (Z _ h).ext fun i => match i with
  | 0 => by show -f = 0 - f * (1 : Int); omega
  | 1 => by show a = a - f * (0 : Int); omega
  | 2 => by show b = b - f * (0 : Int); omega
  | 3 => by show c - f = c - f * (1 : Int); omega
  | 4 => by show d = d - f * (0 : Int); omega
  | 5 => by show e = e - f * (0 : Int); omega
  | m + 6 => by show (0 : Int) = mz po9 6 (vec [a, b, c, d, e, f]) (m + 6); exact (mz_out (by omega)).symm
def po14 : List Int := [1, -1, 1, -1, 1, -1, 1]
theorem mo14 : Mo po14 6 := ⟨rfl, rfl, by omega⟩
theorem z14 {rs : List (List Int)} (Z : Zc po14 6 rs) {a b c d e f : Int} (h : In rs (vec [a, b, c, d, e, f])) : In rs (vec [-f, a + f, b - f, c + f, d - f, e + f]) := (Z _ h).ext fun i => match i with
  | 0 => by show -f = 0 - f * (1 : Int); omega
  | 1 => by show a + f = a - f * (-1 : Int); omega
  | 2 => by show b - f = b - f * (1 : Int); omega
  | 3 => by show c + f = c - f * (-1 : Int); omega
  | 4 => by show d - f = d - f * (1 : Int); omega
  | 5 => by show e + f = e - f * (-1 : Int); omega
  | m + 6 => by show (0 : Int) = mz po14 6 (vec [a, b, c, d, e, f]) (m + 6); exact (mz_out (by omega)).symm
theorem nrm3 {rs : List (List Int)} {a b : Int} (Z : Zc po3 2 rs) (h0 : In rs (vec [a, b])) (nz : ¬ (a = 0 ∧ b = 0)) (ha : -4 ≤ a ∧ a ≤ 4) (hb : -4 ≤ b ∧ b ≤ 4) : ∃ N : Int, N ≠ 0 ∧ N.natAbs ≤ 1000000000 ∧ In rs (fun i => N * ev 0 i) := by
  refine ⟨a * a - a * b + b * b, fun z => nz ?_, ?_, unit2 (cast2 (lin2 (a - b) (-b) h0 (z3 Z h0)) (by grind) (by grind))⟩
  · have s1 := sq_nn a
    have s2 := sq_nn b
    have s3 := sq_add a b
    have s4 := sq_sub a b
    exact ⟨sq_zero (by omega), sq_zero (by omega)⟩
  · have q1 := mulb ha ha
    have q2 := mulb ha hb
    have q3 := mulb hb hb
    omega
theorem nrm4 {rs : List (List Int)} {a b : Int} (Z : Zc po4 2 rs) (h0 : In rs (vec [a, b])) (nz : ¬ (a = 0 ∧ b = 0)) (ha : -4 ≤ a ∧ a ≤ 4) (hb : -4 ≤ b ∧ b ≤ 4) : ∃ N : Int, N ≠ 0 ∧ N.natAbs ≤ 1000000000 ∧ In rs (fun i => N * ev 0 i) := by
  refine ⟨a * a + b * b, fun z => nz ?_, ?_, unit2 (cast2 (lin2 a (-b) h0 (z4 Z h0)) (by grind) (by grind))⟩
  · have s1 := sq_nn a
    have s2 := sq_nn b
    have s3 := sq_add a b
    have s4 := sq_sub a b
    exact ⟨sq_zero (by omega), sq_zero (by omega)⟩
  · have q1 := mulb ha ha
    have q2 := mulb ha hb
    have q3 := mulb hb hb
    omega
theorem nrm6 {rs : List (List Int)} {a b : Int} (Z : Zc po6 2 rs) (h0 : In rs (vec [a, b])) (nz : ¬ (a = 0 ∧ b = 0)) (ha : -4 ≤ a ∧ a ≤ 4) (hb : -4 ≤ b ∧ b ≤ 4) : ∃ N : Int, N ≠ 0 ∧ N.natAbs ≤ 1000000000 ∧ In rs (fun i => N * ev 0 i) := by
  refine ⟨a * a + a * b + b * b, fun z => nz ?_, ?_, unit2 (cast2 (lin2 (a + b) (-b) h0 (z6 Z h0)) (by grind) (by grind))⟩
  · have s1 := sq_nn a
    have s2 := sq_nn b
    have s3 := sq_add a b
    have s4 := sq_sub a b
    exact ⟨sq_zero (by omega), sq_zero (by omega)⟩
  · have q1 := mulb ha ha
    have q2 := mulb ha hb
    have q3 := mulb hb hb
    omega
theorem nrm5 {rs : List (List Int)} {a b c d : Int} (Z : Zc po5 4 rs) (h0 : In rs (vec [a, b, c, d])) (nz : ¬ (a = 0 ∧ b = 0 ∧ c = 0 ∧ d = 0)) (ha : -4 ≤ a ∧ a ≤ 4) (hb : -4 ≤ b ∧ b ≤ 4) (hc : -4 ≤ c ∧ c ≤ 4) (hd : -4 ≤ d ∧ d ≤ 4) : ∃ N : Int, N ≠ 0 ∧ N.natAbs ≤ 1000000000 ∧ In rs (fun i => N * ev 0 i) := by
  obtain ⟨u, hu'⟩ : ∃ u, u = (a * a + b * b + c * c + d * d) - (a * c + b * d) - (a * d) := ⟨_, rfl⟩
  obtain ⟨v, hv'⟩ : ∃ v, v = (a * b + b * c + c * d) - (a * c + b * d) - (a * d) := ⟨_, rfl⟩
  have h1 := z5 Z h0
  have h2 := z5 Z h1
  have h3 := z5 Z h2
  have h4 := z5 Z h3
  have g0 : In rs (vec [u - v, 0, -v, -v]) := cast4 (lin4 1 b (lin4 1 c (lin4 a d h0 h2) h3) h4) (by grind) (by grind) (by grind) (by grind)
  have g1 := z5 Z g0
  have g2 := z5 Z g1
  have g3 := z5 Z g2
  have g4 := z5 Z g3
  have gN : In rs (vec [u * u - u * v - v * v, 0, 0, 0]) := cast4 (lin4 (u - v) (-v) g0 (lin4 (1) (1) g1 g4)) (by grind) (by grind) (by grind) (by grind)
  refine ⟨u * u - u * v - v * v, fun z => nz ?_, ?_, unit4 gN⟩
  · obtain ⟨z1, z2⟩ := n5 u v z
    have s0 := sq_nn a
    have s1 := sq_nn b
    have s2 := sq_nn c
    have s3 := sq_nn d
    have m01 := sq_sub a b
    have m02 := sq_sub a c
    have m03 := sq_sub a d
    have m12 := sq_sub b c
    have m13 := sq_sub b d
    have m23 := sq_sub c d
    clear ha hb hc hd
    refine ⟨sq_zero (by omega), sq_zero (by omega), sq_zero (by omega), sq_zero (by omega)⟩
  · have q00 := mulb (a := a) (b := a) ha ha
    have q01 := mulb (a := a) (b := b) ha hb
    have q02 := mulb (a := a) (b := c) ha hc
    have q03 := mulb (a := a) (b := d) ha hd
    have q11 := mulb (a := b) (b := b) hb hb
    have q12 := mulb (a := b) (b := c) hb hc
    have q13 := mulb (a := b) (b := d) hb hd
    have q22 := mulb (a := c) (b := c) hc hc
    have q23 := mulb (a := c) (b := d) hc hd
    have q33 := mulb (a := d) (b := d) hd hd
    have bu : -200 ≤ u ∧ u ≤ 200 := by omega
    have bv : -200 ≤ v ∧ v ≤ 200 := by omega
    have t1 := mulb bu bu
    have t2 := mulb bu bv
    have t3 := mulb bv bv
    omega
theorem nrm8 {rs : List (List Int)} {a b c d : Int} (Z : Zc po8 4 rs) (h0 : In rs (vec [a, b, c, d])) (nz : ¬ (a = 0 ∧ b = 0 ∧ c = 0 ∧ d = 0)) (ha : -4 ≤ a ∧ a ≤ 4) (hb : -4 ≤ b ∧ b ≤ 4) (hc : -4 ≤ c ∧ c ≤ 4) (hd : -4 ≤ d ∧ d ≤ 4) : ∃ N : Int, N ≠ 0 ∧ N.natAbs ≤ 1000000000 ∧ In rs (fun i => N * ev 0 i) := by
  obtain ⟨u, hu'⟩ : ∃ u, u = (a * a + b * b + c * c + d * d) := ⟨_, rfl⟩
  obtain ⟨v, hv'⟩ : ∃ v, v = (a * b + b * c + c * d) - (a * d) := ⟨_, rfl⟩
  have h1 := z8 Z h0
  have h2 := z8 Z h1
  have h3 := z8 Z h2
  have g0 : In rs (vec [u, v, 0, -v]) := cast4 (lin4 1 (-b) (lin4 1 (-c) (lin4 a (-d) h0 h1) h2) h3) (by grind) (by grind) (by grind) (by grind)
  have g1 := z8 Z g0
  have g2 := z8 Z g1
  have g3 := z8 Z g2
  have gN : In rs (vec [u * u - 2 * (v * v), 0, 0, 0]) := cast4 (lin4 u (-v) g0 (lin4 (1) (-1) g1 g3)) (by grind) (by grind) (by grind) (by grind)
  refine ⟨u * u - 2 * (v * v), fun z => nz ?_, ?_, unit4 gN⟩
  · obtain ⟨z1, z2⟩ := n2 u v z
    have s0 := sq_nn a
    have s1 := sq_nn b
    have s2 := sq_nn c
    have s3 := sq_nn d
    clear ha hb hc hd
    refine ⟨sq_zero (by omega), sq_zero (by omega), sq_zero (by omega), sq_zero (by omega)⟩
  · have q00 := mulb (a := a) (b := a) ha ha
    have q01 := mulb (a := a) (b := b) ha hb
    have q02 := mulb (a := a) (b := c) ha hc
    have q03 := mulb (a := a) (b := d) ha hd
    have q11 := mulb (a := b) (b := b) hb hb
    have q12 := mulb (a := b) (b := c) hb hc
    have q13 := mulb (a := b) (b := d) hb hd
    have q22 := mulb (a := c) (b := c) hc hc
    have q23 := mulb (a := c) (b := d) hc hd
    have q33 := mulb (a := d) (b := d) hd hd
    have bu : -200 ≤ u ∧ u ≤ 200 := by omega
    have bv : -200 ≤ v ∧ v ≤ 200 := by omega
    have t1 := mulb bu bu
    have t2 := mulb bu bv
    have t3 := mulb bv bv
    omega
theorem nrm10 {rs : List (List Int)} {a b c d : Int} (Z : Zc po10 4 rs) (h0 : In rs (vec [a, b, c, d])) (nz : ¬ (a = 0 ∧ b = 0 ∧ c = 0 ∧ d = 0)) (ha : -4 ≤ a ∧ a ≤ 4) (hb : -4 ≤ b ∧ b ≤ 4) (hc : -4 ≤ c ∧ c ≤ 4) (hd : -4 ≤ d ∧ d ≤ 4) : ∃ N : Int, N ≠ 0 ∧ N.natAbs ≤ 1000000000 ∧ In rs (fun i => N * ev 0 i) := by
  obtain ⟨u, hu'⟩ : ∃ u, u = (a * a + b * b + c * c + d * d) - (a * c + b * d) - (-(a * d)) := ⟨_, rfl⟩
  obtain ⟨v, hv'⟩ : ∃ v, v = (-(a * b + b * c + c * d)) - (a * c + b * d) - (-(a * d)) := ⟨_, rfl⟩
  have h1 := z10 Z h0
  have h2 := z10 Z h1
  have h3 := z10 Z h2
  have h4 := z10 Z h3
  have g0 : In rs (vec [u - v, 0, -v, v]) := cast4 (lin4 1 (-b) (lin4 1 (-c) (lin4 a (-d) h0 h2) h3) h4) (by grind) (by grind) (by grind) (by grind)
  have g1 := z10 Z g0
  have g2 := z10 Z g1
  have g3 := z10 Z g2
  have g4 := z10 Z g3
  have gN : In rs (vec [u * u - u * v - v * v, 0, 0, 0]) := cast4 (lin4 (u - v) (-v) g0 (lin4 (-1) (1) g1 g4)) (by grind) (by grind) (by grind) (by grind)
  refine ⟨u * u - u * v - v * v, fun z => nz ?_, ?_, unit4 gN⟩
  · obtain ⟨z1, z2⟩ := n5 u v z
    have s0 := sq_nn a
    have s1 := sq_nn b
    have s2 := sq_nn c
    have s3 := sq_nn d
    have m01 := sq_add a b
    have m02 := sq_sub a c
    have m03 := sq_add a d
    have m12 := sq_add b c
    have m13 := sq_sub b d
    have m23 := sq_add c d
    clear ha hb hc hd
    refine ⟨sq_zero (by omega), sq_zero (by omega), sq_zero (by omega), sq_zero (by omega)⟩
  · have q00 := mulb (a := a) (b := a) ha ha
    have q01 := mulb (a := a) (b := b) ha hb
    have q02 := mulb (a := a) (b := c) ha hc
    have q03 := mulb (a := a) (b := d) ha hd
    have q11 := mulb (a := b) (b := b) hb hb
    have q12 := mulb (a := b) (b := c) hb hc
    have q13 := mulb (a := b) (b := d) hb hd
    have q22 := mulb (a := c) (b := c) hc hc
    have q23 := mulb (a := c) (b := d) hc hd
    have q33 := mulb (a := d) (b := d) hd hd
    have bu : -200 ≤ u ∧ u ≤ 200 := by omega
    have bv : -200 ≤ v ∧ v ≤ 200 := by omega
    have t1 := mulb bu bu
    have t2 := mulb bu bv
    have t3 := mulb bv bv
    omega
theorem nrm12 {rs : List (List Int)} {a b c d : Int} (Z : Zc po12 4 rs) (h0 : In rs (vec [a, b, c, d])) (nz : ¬ (a = 0 ∧ b = 0 ∧ c = 0 ∧ d = 0)) (ha : -4 ≤ a ∧ a ≤ 4) (hb : -4 ≤ b ∧ b ≤ 4) (hc : -4 ≤ c ∧ c ≤ 4) (hd : -4 ≤ d ∧ d ≤ 4) : ∃ N : Int, N ≠ 0 ∧ N.natAbs ≤ 1000000000 ∧ In rs (fun i => N * ev 0 i) := by
  obtain ⟨u, hu'⟩ : ∃ u, u = (a * a + b * b + c * c + d * d) + (a * c + b * d) := ⟨_, rfl⟩
  obtain ⟨v, hv'⟩ : ∃ v, v = (a * b + b * c + c * d) := ⟨_, rfl⟩
  have h1 := z12 Z h0
  have h2 := z12 Z h1
  have h3 := z12 Z h2
  have h4 := z12 Z h3
  have h5 := z12 Z h4
  have g0 : In rs (vec [u, 2 * v, 0, -v]) := cast4 (lin4 1 (-b) (lin4 1 (-c) (lin4 a (-d) h0 h3) h4) h5) (by grind) (by grind) (by grind) (by grind)
  have g1 := z12 Z g0
  have g2 := z12 Z g1
  have g3 := z12 Z g2
  have g4 := z12 Z g3
  have g5 := z12 Z g4
  have gN : In rs (vec [u * u - 3 * (v * v), 0, 0, 0]) := cast4 (lin4 u (-v) g0 (lin4 (1) (-1) g1 g5)) (by grind) (by grind) (by grind) (by grind)
  refine ⟨u * u - 3 * (v * v), fun z => nz ?_, ?_, unit4 gN⟩
  · obtain ⟨z1, z2⟩ := n3 u v z
    have s0 := sq_nn a
    have s1 := sq_nn b
    have s2 := sq_nn c
    have s3 := sq_nn d
    have m02 := sq_add a c
    have m13 := sq_add b d
    clear ha hb hc hd
    refine ⟨sq_zero (by omega), sq_zero (by omega), sq_zero (by omega), sq_zero (by omega)⟩
  · have q00 := mulb (a := a) (b := a) ha ha
    have q01 := mulb (a := a) (b := b) ha hb
    have q02 := mulb (a := a) (b := c) ha hc
    have q03 := mulb (a := a) (b := d) ha hd
    have q11 := mulb (a := b) (b := b) hb hb
    have q12 := mulb (a := b) (b := c) hb hc
    have q13 := mulb (a := b) (b := d) hb hd
    have q22 := mulb (a := c) (b := c) hc hc
    have q23 := mulb (a := c) (b := d) hc hd
    have q33 := mulb (a := d) (b := d) hd hd
    have bu : -200 ≤ u ∧ u ≤ 200 := by omega
    have bv : -200 ≤ v ∧ v ≤ 200 := by omega
    have t1 := mulb bu bu
    have t2 := mulb bu bv
    have t3 := mulb bv bv
    omega
theorem nrm7 {rs : List (List Int)} {a b c d e f : Int} (Z : Zc po7 6 rs) (h0 : In rs (vec [a, b, c, d, e, f])) (nz : ¬ (a = 0 ∧ b = 0 ∧ c = 0 ∧ d = 0 ∧ e = 0 ∧ f = 0)) (ha : -4 ≤ a ∧ a ≤ 4) (hb : -4 ≤ b ∧ b ≤ 4) (hc : -4 ≤ c ∧ c ≤ 4) (hd : -4 ≤ d ∧ d ≤ 4) (he : -4 ≤ e ∧ e ≤ 4) (hf : -4 ≤ f ∧ f ≤ 4) : ∃ N : Int, N ≠ 0 ∧ N.natAbs ≤ 1000000000 ∧ In rs (fun i => N * ev 0 i) := by
  obtain ⟨u, hu'⟩ : ∃ u, u = (a * a + b * b + c * c + d * d + e * e + f * f) - (a * d + b * e + c * f) - (a * e + b * f) := ⟨_, rfl⟩
  obtain ⟨v, hv'⟩ : ∃ v, v = (a * b + b * c + c * d + d * e + e * f) - (a * d + b * e + c * f) - (a * e + b * f) := ⟨_, rfl⟩
  obtain ⟨w, hw'⟩ : ∃ w, w = (a * c + b * d + c * e + d * f) + (a * f) - (a * d + b * e + c * f) - (a * e + b * f) := ⟨_, rfl⟩
  have h1 := z7 Z h0
  have h2 := z7 Z h1
  have h3 := z7 Z h2
  have h4 := z7 Z h3
  have h5 := z7 Z h4
  have h6 := z7 Z h5
  have g0 : In rs (vec [u - v, 0, w - v, -v, -v, w - v]) := cast6 (lin6 1 b (lin6 1 c (lin6 1 d (lin6 1 e (lin6 a f h0 h2) h3) h4) h5) h6) (by grind) (by grind) (by grind) (by grind) (by grind) (by grind)
  have g1 := z7 Z g0
  have g2 := z7 Z g1
  have g3 := z7 Z g2
  have g4 := z7 Z g3
  have g5 := z7 Z g4
  have g6 := z7 Z g5
  have gN : In rs (vec [nm7 u v w, 0, 0, 0, 0, 0]) := cast6 (lin6 1 1 (lin6 (v70 u v w) (v71 u v w) g0 (lin6 (1) (1) g1 g6)) (lin6 (v72 u v w) 0 (lin6 (1) (1) g2 g5) g0)) (by unfold nm7 v70 v71 v72; grind) (by unfold v70 v71 v72; grind) (by unfold v70 v71 v72; grind) (by unfold v70 v71 v72; grind) (by unfold v70 v71 v72; grind) (by unfold v70 v71 v72; grind)
  refine ⟨nm7 u v w, fun z => nz ?_, ?_, unit6 gN⟩
  · obtain ⟨z1, z2, z3⟩ := n7 u v w z
    have s0 := sq_nn a
    have s1 := sq_nn b
    have s2 := sq_nn c
    have s3 := sq_nn d
    have s4 := sq_nn e
    have s5 := sq_nn f
    have m01 := sq_sub a b
    have m02 := sq_sub a c
    have m03 := sq_sub a d
    have m04 := sq_sub a e
    have m05 := sq_sub a f
    have m12 := sq_sub b c
    have m13 := sq_sub b d
    have m14 := sq_sub b e
    have m15 := sq_sub b f
    have m23 := sq_sub c d
    have m24 := sq_sub c e
    have m25 := sq_sub c f
    have m34 := sq_sub d e
    have m35 := sq_sub d f
    have m45 := sq_sub e f
    clear ha hb hc hd he hf
    refine ⟨sq_zero (by omega), sq_zero (by omega), sq_zero (by omega), sq_zero (by omega), sq_zero (by omega), sq_zero (by omega)⟩
  · have q00 := mulb (a := a) (b := a) ha ha
    have q01 := mulb (a := a) (b := b) ha hb
    have q02 := mulb (a := a) (b := c) ha hc
    have q03 := mulb (a := a) (b := d) ha hd
    have q04 := mulb (a := a) (b := e) ha he
    have q05 := mulb (a := a) (b := f) ha hf
    have q11 := mulb (a := b) (b := b) hb hb
    have q12 := mulb (a := b) (b := c) hb hc
    have q13 := mulb (a := b) (b := d) hb hd
    have q14 := mulb (a := b) (b := e) hb he
    have q15 := mulb (a := b) (b := f) hb hf
    have q22 := mulb (a := c) (b := c) hc hc
    have q23 := mulb (a := c) (b := d) hc hd
    have q24 := mulb (a := c) (b := e) hc he
    have q25 := mulb (a := c) (b := f) hc hf
    have q33 := mulb (a := d) (b := d) hd hd
    have q34 := mulb (a := d) (b := e) hd he
    have q35 := mulb (a := d) (b := f) hd hf
    have q44 := mulb (a := e) (b := e) he he
    have q45 := mulb (a := e) (b := f) he hf
    have q55 := mulb (a := f) (b := f) hf hf
    have bu : -200 ≤ u ∧ u ≤ 200 := by omega
    have bv : -200 ≤ v ∧ v ≤ 200 := by omega
    have bw : -200 ≤ w ∧ w ≤ 200 := by omega
    have := b7 bu bv bw
    omega
theorem nrm9 {rs : List (List Int)} {a b c d e f : Int} (Z : Zc po9 6 rs) (h0 : In rs (vec [a, b, c, d, e, f])) (nz : ¬ (a = 0 ∧ b = 0 ∧ c = 0 ∧ d = 0 ∧ e = 0 ∧ f = 0)) (ha : -4 ≤ a ∧ a ≤ 4) (hb : -4 ≤ b ∧ b ≤ 4) (hc : -4 ≤ c ∧ c ≤ 4) (hd : -4 ≤ d ∧ d ≤ 4) (he : -4 ≤ e ∧ e ≤ 4) (hf : -4 ≤ f ∧ f ≤ 4) : ∃ N : Int, N ≠ 0 ∧ N.natAbs ≤ 1000000000 ∧ In rs (fun i => N * ev 0 i) := by
  obtain ⟨u, hu'⟩ : ∃ u, u = (a * a + b * b + c * c + d * d + e * e + f * f) - (a * d + b * e + c * f) := ⟨_, rfl⟩
  obtain ⟨v, hv'⟩ : ∃ v, v = (a * b + b * c + c * d + d * e + e * f) - (a * e + b * f) - (a * f) := ⟨_, rfl⟩
  obtain ⟨w, hw'⟩ : ∃ w, w = (a * c + b * d + c * e + d * f) - (a * e + b * f) - (a * f) := ⟨_, rfl⟩
  have h1 := z9 Z h0
  have h2 := z9 Z h1
  have h3 := z9 Z h2
  have h4 := z9 Z h3
  have h5 := z9 Z h4
  have h6 := z9 Z h5
  have h7 := z9 Z h6
  have h8 := z9 Z h7
  have g0 : In rs (vec [u, v - w, w - v, 0, -w, -v]) := cast6 (lin6 1 b (lin6 1 c (lin6 1 d (lin6 1 e (lin6 a f h0 h4) h5) h6) h7) h8) (by grind) (by grind) (by grind) (by grind) (by grind) (by grind)
  have g1 := z9 Z g0
  have g2 := z9 Z g1
  have g3 := z9 Z g2
  have g4 := z9 Z g3
  have g5 := z9 Z g4
  have g6 := z9 Z g5
  have g7 := z9 Z g6
  have g8 := z9 Z g7
  have gN : In rs (vec [nm9 u v w, 0, 0, 0, 0, 0]) := cast6 (lin6 1 1 (lin6 (v90 u v w) (v91 u v w) g0 (lin6 (1) (1) g1 g8)) (lin6 (v92 u v w) 0 (lin6 (1) (1) g2 g7) g0)) (by unfold nm9 v90 v91 v92; grind) (by unfold v90 v91 v92; grind) (by unfold v90 v91 v92; grind) (by unfold v90 v91 v92; grind) (by unfold v90 v91 v92; grind) (by unfold v90 v91 v92; grind)
  refine ⟨nm9 u v w, fun z => nz ?_, ?_, unit6 gN⟩
  · obtain ⟨z1, z2, z3⟩ := n9 u v w z
    have s0 := sq_nn a
    have s1 := sq_nn b
    have s2 := sq_nn c
    have s3 := sq_nn d
    have s4 := sq_nn e
    have s5 := sq_nn f
    have m03 := sq_sub a d
    have m14 := sq_sub b e
    have m25 := sq_sub c f
    clear ha hb hc hd he hf
    refine ⟨sq_zero (by omega), sq_zero (by omega), sq_zero (by omega), sq_zero (by omega), sq_zero (by omega), sq_zero (by omega)⟩
  · have q00 := mulb (a := a) (b := a) ha ha
    have q01 := mulb (a := a) (b := b) ha hb
    have q02 := mulb (a := a) (b := c) ha hc
    have q03 := mulb (a := a) (b := d) ha hd
    have q04 := mulb (a := a) (b := e) ha he
    have q05 := mulb (a := a) (b := f) ha hf
    have q11 := mulb (a := b) (b := b) hb hb
    have q12 := mulb (a := b) (b := c) hb hc
    have q13 := mulb (a := b) (b := d) hb hd
    have q14 := mulb (a := b) (b := e) hb he
    have q15 := mulb (a := b) (b := f) hb hf
    have q22 := mulb (a := c) (b := c) hc hc
    have q23 := mulb (a := c) (b := d) hc hd
    have q24 := mulb (a := c) (b := e) hc he
    have q25 := mulb (a := c) (b := f) hc hf
    have q33 := mulb (a := d) (b := d) hd hd
    have q34 := mulb (a := d) (b := e) hd he
    have q35 := mulb (a := d) (b := f) hd hf
    have q44 := mulb (a := e) (b := e) he he
    have q45 := mulb (a := e) (b := f) he hf
    have q55 := mulb (a := f) (b := f) hf hf
    have bu : -200 ≤ u ∧ u ≤ 200 := by omega
    have bv : -200 ≤ v ∧ v ≤ 200 := by omega
    have bw : -200 ≤ w ∧ w ≤ 200 := by omega
    have := b9 bu bv bw
    omega
theorem nrm14 {rs : List (List Int)} {a b c d e f : Int} (Z : Zc po14 6 rs) (h0 : In rs (vec [a, b, c, d, e, f])) (nz : ¬ (a = 0 ∧ b = 0 ∧ c = 0 ∧ d = 0 ∧ e = 0 ∧ f = 0)) (ha : -4 ≤ a ∧ a ≤ 4) (hb : -4 ≤ b ∧ b ≤ 4) (hc : -4 ≤ c ∧ c ≤ 4) (hd : -4 ≤ d ∧ d ≤ 4) (he : -4 ≤ e ∧ e ≤ 4) (hf : -4 ≤ f ∧ f ≤ 4) : ∃ N : Int, N ≠ 0 ∧ N.natAbs ≤ 1000000000 ∧ In rs (fun i => N * ev 0 i) := by
  obtain ⟨u, hu'⟩ : ∃ u, u = (a * a + b * b + c * c + d * d + e * e + f * f) - (-(a * d + b * e + c * f)) - (a * e + b * f) := ⟨_, rfl⟩
  obtain ⟨v, hv'⟩ : ∃ v, v = (-(a * b + b * c + c * d + d * e + e * f)) - (-(a * d + b * e + c * f)) - (a * e + b * f) := ⟨_, rfl⟩
  obtain ⟨w, hw'⟩ : ∃ w, w = (a * c + b * d + c * e + d * f) + (-(a * f)) - (-(a * d + b * e + c * f)) - (a * e + b * f) := ⟨_, rfl⟩
  have h1 := z14 Z h0
  have h2 := z14 Z h1
  have h3 := z14 Z h2
  have h4 := z14 Z h3
  have h5 := z14 Z h4
  have h6 := z14 Z h5
  have g0 : In rs (vec [u - v, 0, w - v, v, -v, v - w]) := cast6 (lin6 1 (-b) (lin6 1 (-c) (lin6 1 (-d) (lin6 1 (-e) (lin6 a (-f) h0 h2) h3) h4) h5) h6) (by grind) (by grind) (by grind) (by grind) (by grind) (by grind)
  have g1 := z14 Z g0
  have g2 := z14 Z g1
  have g3 := z14 Z g2
  have g4 := z14 Z g3
  have g5 := z14 Z g4
  have g6 := z14 Z g5
  have gN : In rs (vec [nm7 u v w, 0, 0, 0, 0, 0]) := cast6 (lin6 1 1 (lin6 (v70 u v w) (v71 u v w) g0 (lin6 (-1) (1) g1 g6)) (lin6 (v72 u v w) 0 (lin6 (1) (-1) g2 g5) g0)) (by unfold nm7 v70 v71 v72; grind) (by unfold v70 v71 v72; grind) (by unfold v70 v71 v72; grind) (by unfold v70 v71 v72; grind) (by unfold v70 v71 v72; grind) (by unfold v70 v71 v72; grind)
  refine ⟨nm7 u v w, fun z => nz ?_, ?_, unit6 gN⟩
  · obtain ⟨z1, z2, z3⟩ := n7 u v w z
    have s0 := sq_nn a
    have s1 := sq_nn b
    have s2 := sq_nn c
    have s3 := sq_nn d
    have s4 := sq_nn e
    have s5 := sq_nn f
    have m01 := sq_add a b
    have m02 := sq_sub a c
    have m03 := sq_add a d
    have m04 := sq_sub a e
    have m05 := sq_add a f
    have m12 := sq_add b c
    have m13 := sq_sub b d
    have m14 := sq_add b e
    have m15 := sq_sub b f
    have m23 := sq_add c d
    have m24 := sq_sub c e
    have m25 := sq_add c f
    have m34 := sq_add d e
    have m35 := sq_sub d f
    have m45 := sq_add e f
    clear ha hb hc hd he hf
    refine ⟨sq_zero (by omega), sq_zero (by omega), sq_zero (by omega), sq_zero (by omega), sq_zero (by omega), sq_zero (by omega)⟩
  · have q00 := mulb (a := a) (b := a) ha ha
    have q01 := mulb (a := a) (b := b) ha hb
    have q02 := mulb (a := a) (b := c) ha hc
    have q03 := mulb (a := a) (b := d) ha hd
    have q04 := mulb (a := a) (b := e) ha he
    have q05 := mulb (a := a) (b := f) ha hf
    have q11 := mulb (a := b) (b := b) hb hb
    have q12 := mulb (a := b) (b := c) hb hc
    have q13 := mulb (a := b) (b := d) hb hd
    have q14 := mulb (a := b) (b := e) hb he
    have q15 := mulb (a := b) (b := f) hb hf
    have q22 := mulb (a := c) (b := c) hc hc
    have q23 := mulb (a := c) (b := d) hc hd
    have q24 := mulb (a := c) (b := e) hc he
    have q25 := mulb (a := c) (b := f) hc hf
    have q33 := mulb (a := d) (b := d) hd hd
    have q34 := mulb (a := d) (b := e) hd he
    have q35 := mulb (a := d) (b := f) hd hf
    have q44 := mulb (a := e) (b := e) he he
    have q45 := mulb (a := e) (b := f) he hf
    have q55 := mulb (a := f) (b := f) hf hf
    have bu : -200 ≤ u ∧ u ≤ 200 := by omega
    have bv : -200 ≤ v ∧ v ≤ 200 := by omega
    have bw : -200 ≤ w ∧ w ≤ 200 := by omega
    have := b7 bu bv bw
    omega
end Q
end

/-! text MK -/
section
set_option Elab.async false
set_option linter.all false
/-! the frames of the orders that the law reaches, reckoned -/
namespace Q
open PySem
def cyQ (n : Nat) : Option (List Int) :=
  (powersM n).bind fun kbs => (dvM kbs).bind fun fin => if fin.isPerm (lawDiv n) = true ∧ (lawDiv n).Pairwise (· ≤ ·) then ((iB (lawDiv n)).foldlM cyF []).bind fun known => getG known n else none
def frQ (n : Nat) : Option (List Int × List (List Int)) :=
  (cyQ n).bind fun poly => if 2 ≤ poly.length ∧ poly.length ≤ 100 ∧ n ≤ 100 ∧ (List.range n).all (fun (u : Nat) => (gcM (0 + (u : Int)) n).isSome) = true then (wloop (frC n (poly.length - 1)) (frF poly) 100 (idM (poly.length - 1))).map fun rows => (poly, rows) else none
theorem cyQ_ok {n : Nat} {q : List Int} (h : cyQ n = some q) : R_cyclotomic_in [.int n] (il q) := by
  unfold cyQ at h
  cases hp : powersM n with
  | none => rw [hp] at h; cases h
  | some kbs =>
    rw [hp] at h
    simp only [Option.bind_some] at h
    cases hd : dvM kbs with
    | none => rw [hd] at h; cases h
    | some fin =>
      rw [hd] at h
      simp only [Option.bind_some] at h
      split at h
      · rename_i g
        cases hk : (iB (lawDiv n)).foldlM cyF [] with
        | none => rw [hk] at h; cases h
        | some known =>
          rw [hk] at h
          exact ⟨n, lawDiv n, known, q, rfl, ⟨n, kbs, fin, lawDiv n, rfl, hp, hd, List.isPerm_iff.mp g.1, g.2, rfl⟩, hk, h, rfl⟩
      · cases h
theorem frQ_ok {n : Nat} {poly : List Int} {rows : List (List Int)} (h : frQ n = some (poly, rows)) : 2 ≤ poly.length ∧ R_units_list [.int n] (il (unitsM n)) ∧ R_frame_init [.int n] [.int n, lB rows, .int ((poly.length - 1 : Nat) : Int), il (unitsM n)] := by
  unfold frQ at h
  cases hc : cyQ n with
  | none => rw [hc] at h; cases h
  | some p =>
    rw [hc] at h
    simp only [Option.bind_some] at h
    split at h
    · rename_i g
      obtain ⟨g1, g2, g3, g4⟩ := g
      cases hw : wloop (frC n (p.length - 1)) (frF p) 100 (idM (p.length - 1)) with
      | none => rw [hw] at h; cases h
      | some r =>
        rw [hw] at h
        have e : (p, r) = (poly, rows) := Option.some.inj h
        cases e
        rw [List.all_eq_true] at g4
        have hu : R_units_list [.int n] (il (unitsM n)) := ⟨n, rfl, g3, fun u hu => g4 u (List.mem_range.mpr hu), rfl⟩
        have es : ((poly.length : Int) - 1) = ((poly.length - 1 : Nat) : Int) := by omega
        exact ⟨g1, hu, n, poly, unitsM n, rows, rfl, cyQ_ok hc, hu, g1, g2, by omega, by omega, hw, by rw [es]⟩
    · cases h
/-- each row is z times the one ahead -/
def frOk (poly : List Int) (k : Nat) (rows : List (List Int)) : Bool :=
  rows.all (fun r => decide (r.length = k)) && (List.range k).all (fun i => decide (vec (rows.getD 0 []) i = ev 0 i)) && (List.range (rows.length - 1)).all fun m => (List.range k).all fun i => decide (vec (rows.getD (m + 1) []) i = mz poly k (vec (rows.getD m [])) i)
theorem frOk_zp {poly : List Int} {k : Nat} {rows : List (List Int)} (hk : 0 < k) (h : frOk poly k rows = true) : ∀ m, m < rows.length → (rows.getD m []).length = k ∧ ∀ i, vec (rows.getD m []) i = zp poly k m i := by
  unfold frOk at h
  simp only [Bool.and_eq_true, List.all_eq_true, decide_eq_true_eq, List.mem_range] at h
  obtain ⟨⟨h1, h2⟩, h3⟩ := h
  have out : ∀ m i, k ≤ i → zp poly k m i = 0 := fun m i hi => by
    cases m with
    | zero => exact if_neg (by omega)
    | succ m => exact mz_out hi
  intro m
  induction m with
  | zero =>
    intro hm
    have hl := h1 _ (getD_in (d := []) hm)
    refine ⟨hl, fun i => ?_⟩
    by_cases hi : i < k
    · exact h2 i hi
    · rw [vec_out hl (by omega), out 0 i (by omega)]
  | succ m ih =>
    intro hm
    have hl := h1 _ (getD_in (d := []) hm)
    refine ⟨hl, fun i => ?_⟩
    by_cases hi : i < k
    · rw [h3 m (by omega) i hi]
      exact mz_ext (ih (by omega)).2 i
    · rw [vec_out hl (by omega), out _ i (by omega)]
def polyOf (n : Nat) : List Int := ((frQ n).map (·.1)).getD []
def rowsOf (n : Nat) : List (List Int) := ((frQ n).map (·.2)).getD []
/-- what is known of an order -/
structure Oo (n : Nat) (poly : List Int) (k : Nat) : Prop where
  fr : frQ n = some (poly, rowsOf n)
  law : lcyM n = some poly
  mo : Mo poly k
  bits : bb 2 poly
  rows : frOk poly k (rowsOf n) = true
  cnt : 2 * k ≤ (rowsOf n).length ∧ (rowsOf n).length ≤ 100 ∧ 2 ≤ (rowsOf n).length
  sh : (rowsOf n).all (fun r => r.all fun e => decide (Builtin.Int.intBits e ≤ 8)) = true
  units : (unitsM n).length ≤ 8
  ord : 3 ≤ n ∧ n ≤ 60
  sz : 2 ≤ k ∧ k ≤ 6
theorem bb_dec {m : Nat} {r : List Int} (h : r.all (fun e => decide (Builtin.Int.intBits e ≤ m)) = true) : bb m r := fun e he => of_decide_eq_true (List.all_eq_true.mp h e he)
theorem oo3 : Oo 3 po3 2 := ⟨by decide +kernel, by decide +kernel, mo3, bb_dec (by decide +kernel), by decide +kernel, by decide +kernel, by decide +kernel, by decide +kernel, by decide, by decide⟩
theorem oo4 : Oo 4 po4 2 := ⟨by decide +kernel, by decide +kernel, mo4, bb_dec (by decide +kernel), by decide +kernel, by decide +kernel, by decide +kernel, by decide +kernel, by decide, by decide⟩
theorem oo5 : Oo 5 po5 4 := ⟨by decide +kernel, by decide +kernel, mo5, bb_dec (by decide +kernel), by decide +kernel, by decide +kernel, by decide +kernel, by decide +kernel, by decide, by decide⟩
theorem oo6 : Oo 6 po6 2 := ⟨by decide +kernel, by decide +kernel, mo6, bb_dec (by decide +kernel), by decide +kernel, by decide +kernel, by decide +kernel, by decide +kernel, by decide, by decide⟩
theorem oo7 : Oo 7 po7 6 := ⟨by decide +kernel, by decide +kernel, mo7, bb_dec (by decide +kernel), by decide +kernel, by decide +kernel, by decide +kernel, by decide +kernel, by decide, by decide⟩
theorem oo8 : Oo 8 po8 4 := ⟨by decide +kernel, by decide +kernel, mo8, bb_dec (by decide +kernel), by decide +kernel, by decide +kernel, by decide +kernel, by decide +kernel, by decide, by decide⟩
theorem oo9 : Oo 9 po9 6 := ⟨by decide +kernel, by decide +kernel, mo9, bb_dec (by decide +kernel), by decide +kernel, by decide +kernel, by decide +kernel, by decide +kernel, by decide, by decide⟩
theorem oo10 : Oo 10 po10 4 := ⟨by decide +kernel, by decide +kernel, mo10, bb_dec (by decide +kernel), by decide +kernel, by decide +kernel, by decide +kernel, by decide +kernel, by decide, by decide⟩
theorem oo12 : Oo 12 po12 4 := ⟨by decide +kernel, by decide +kernel, mo12, bb_dec (by decide +kernel), by decide +kernel, by decide +kernel, by decide +kernel, by decide +kernel, by decide, by decide⟩
theorem oo14 : Oo 14 po14 6 := ⟨by decide +kernel, by decide +kernel, mo14, bb_dec (by decide +kernel), by decide +kernel, by decide +kernel, by decide +kernel, by decide +kernel, by decide, by decide⟩
/-- the frames of the doubled orders, and the four others -/
theorem fr_more : [1, 2, 6, 8, 10, 12, 14, 16, 18, 20, 24, 28, 30].all (fun n => (frQ n).isSome && decide ((polyOf n).length ≤ 20)) = true := by decide +kernel
end Q
end

/-! text W25 -/
section
set_option Elab.async false
set_option linter.all false
set_option maxRecDepth 100000
/-! span_rows -/
namespace Q
open PySem PySem.Spec PyProof.Rows L2
abbrev st_law_span_rows : Stmt := top 79
abbrev NSp : List Str := ["_law_rows", "_law_size", "_law_left", "_law_found", "_law_at", "_law_own", "_law_rest", "_law_ahead", "_law_row", "_law_entry", "$"]
theorem sc_law_span_rows : FnScope NSp ["_law_rows", "_law_size"] (defScope st_law_span_rows) := ⟨rfl, rfl, rfl, by decide +kernel, rfl, by decide +kernel, by decide +kernel⟩
abbrev lB2 (rows : List (List Int)) : B := .lst (rows.map it)
def R_law_span_rows (bs : List B) (r : B) : Prop := ∃ (rows : List (List Int)) (size fuel : Nat) (q : List (List Int)), bs = [lB2 rows, .int (size : Int)] ∧ 1 ≤ size ∧ size ≤ 100 ∧ rows.length ≤ 100 ∧ (∀ r ∈ rows, r ≠ []) ∧ lsM size fuel rows = some q ∧ r = lB2 q
abbrev qL : Str := (("_law_span_rows" : Str) ++ ".<locals>.") ++ "<lambda>"
theorem okRow_len {size : Nat} {r : List Int} (h : okRow size r = true) : r.length = size := by
  unfold okRow at h
  rw [Bool.and_eq_true] at h
  exact of_decide_eq_true h.1
theorem okRow_bits {size : Nat} {r : List Int} (h : okRow size r = true) : bb 4194304 r := fun e he => by
  unfold okRow at h
  rw [Bool.and_eq_true, List.all_eq_true] at h
  have := of_decide_eq_true (h.2 e he)
  unfold Builtin.Int.intBits
  split <;> omega
theorem wl_inv {S : Type} {c : S → Option Bool} {f : S → Option S} (I : S → Prop) (h : ∀ s s', f s = some s' → I s → I s') : ∀ {n : Nat} {s r : S}, wloop c f n s = some r → I s → I r
  | 0, _, _, e, _ => by cases e
  | n + 1, s, r, e, i => by
    unfold wloop at e
    cases hc : c s with
    | none => rw [hc] at e; cases e
    | some b =>
      rw [hc] at e
      cases b with
      | false => cases e; exact i
      | true =>
        cases hf : f s with
        | none => simp only [hf] at e; cases e
        | some s' =>
          simp only [hf] at e
          exact wl_inv I h (n := n) e (h s s' hf i)
theorem lsW_some {size at_ : Nat} {s s' : List (List Int) × List (List Int)} (h : lsW size at_ s = some s') : ∃ P t, s.1.mergeSort (leH at_) = P :: t ∧ (hd at_ P ≠ 0 ∧ (hd at_ P).natAbs.log2 < 9000 ∧ s.1.all (okRow size) = true ∧ s.1.length ≤ 100 ∧ s.2.length ≤ 100) ∧
    s' = (P :: (lsRest at_ P t).filter (fun r => decide (hd at_ r ≠ 0)), s.2 ++ (lsRest at_ P t).filter fun r => decide (hd at_ r = 0) && nzRow r) := by
  unfold lsW at h
  split at h
  · cases h
  · rename_i P t e
    split at h
    · rename_i g
      exact ⟨P, t, e, g, (Option.some.inj h).symm⟩
    · cases h
theorem lsW_len {size at_ : Nat} {s s' : List (List Int) × List (List Int)} (h : lsW size at_ s = some s') : ∀ r ∈ s'.1, r.length = size := by
  obtain ⟨P, t, e, g, rfl⟩ := lsW_some h
  obtain ⟨pm, _⟩ := sorted_by e
  have ok : ∀ r ∈ P :: t, r.length = size := fun r hr => okRow_len (List.all_eq_true.mp g.2.2.1 r (pm.mem_iff.mp hr))
  intro r hr
  rcases List.mem_cons.mp hr with rfl | hr
  · exact ok _ (List.mem_cons_self ..)
  · obtain ⟨a, ha, rfl⟩ := List.mem_map.mp (List.mem_filter.mp hr).1
    rw [rl_len, ok a (List.mem_cons_of_mem _ ha), ok P (List.mem_cons_self ..), Nat.min_self]
theorem okRow_mul {size : Nat} {r g : List Int} {at_ : Nat} (h : okRow size r = true) (h2 : okRow size g = true) : ∀ y ∈ g, CMulX ((hd at_ r).fdiv (hd at_ g)) y := fun y hy =>
  mulOk_of (mulOk_le (intBits_fdiv_le ((okRow_bits h).at at_)) (okRow_bits h2 y hy) (by decide))
theorem cut_one {α : Type} (x : α) (xs : List α) : cut (x :: xs) (some 1) none = xs := by
  have h1 : HT.sIx (x :: xs).length 0 (some 1) = 1 := by
    unfold HT.sIx
    simp
    try omega
  have h2 : HT.sIx (x :: xs).length (x :: xs).length none = (x :: xs).length := rfl
  unfold cut
  rw [h1, h2]
  simp
theorem cut_head {α : Type} (x : α) (xs : List α) : cut (x :: xs) none (some 1) = [x] := by
  have h1 : HT.sIx (x :: xs).length (x :: xs).length (some 1) = 1 := by
    unfold HT.sIx
    simp
    try omega
  have h2 : HT.sIx (x :: xs).length 0 none = 0 := rfl
  unfold cut
  rw [h1, h2]
  simp
section
variable {P : Program} {w : World} {K : PySem.W.Frag} {mg : Str → Option Value} {base : Heap} {C : Ct}
theorem ok_law_span_rows {f c Pt : Addr} {fd : FuncData} (F : Fun K "_law_span_rows" "_law_span_rows" st_law_span_rows f fd) (hcd : fd.code = .ref c) (TB : LamX.TabB base mg c Pt) (T : Bi mg) (D : Dn P w K mg base "_law_row_less" 1 (spR C R_law_row_less)) (hb : Binds K fd ["_law_rows", "_law_size"] []) :
    FnR P w K mg base CX0 2 f (spRT C [(Pt, qL)] R_law_span_rows) := by
  refine defT_ok (N := NSp) (Pc := fun v => v = .ref c) F hcd sc_law_span_rows hb (by decide) (fun bs r h => ?_) (fun cdv A outer s H E bs r hcdv hr h => ?_)
  · obtain ⟨rows, size, fuel, q, rfl, _⟩ := h
    rfl
  · obtain ⟨rows, size, fuel, q, rfl, s1, s2, l1, hne, hq, rfl⟩ := h
    have hcd0 : cdv = .ref c := hcdv
    subst hcd0
    unfold lsM at hq
    cases hz : (List.range size).foldlM (lsC size fuel) (rows.filter nzRow, []) with
    | none => rw [hz] at hq; cases hq
    | some fin =>
      rw [hz] at hq
      have hq : (List.range (size - 1)).foldlM (lsE size) fin.2 = some q := hq
      refine q_parVO (x := lB2 (rows.filter nzRow)) (o := .lst []) 2 3 (e_of (f_cv (f_lc (own := [("_law_row", 8)]) rows it (fun r => [.va (lB2 rows), .va (.int (size : Int)), .un, .un, .un, .un, .un, .un, .va (it r), .un, .un]) nzRow it rfl sc_law_span_rows.nd
          (v_list (e_var 0)) (blkOk_by (N := NSp) (sc := defScope st_law_span_rows) (by decide +kernel)) (blk_of _ _) (fun _ _ _ _ _ z hz => g_name 8 sc_law_span_rows.nd)
          (fun _ _ _ _ _ r hr2 => by
            have hne := hne r hr2
            cases r with
            | nil => exact absurd rfl hne
            | cons x xs => exact t_one (c_w (w_or (c_ne (e_maxT rfl (room64 hr) T.max (e_var 8)) e_int) (fun _ => w_or1 (c_ne (e_minT rfl (room64 hr) T.min (e_var 8)) e_int)) (fun _ => rfl)))) (fun _ _ _ _ _ r hr2 _ => e_tuple false T.tuple (e_var 8)) (by rw [sizeLine_eq]; omega)) rfl)) (f_lst a_nil (by decide)) rfl sc_law_span_rows.nd ?_
      refine q_forZ (fun (s : List (List Int) × List (List Int)) => [.va (lB2 rows), .va (.int (size : Int)), .va (lB2 s.1), .ow (.lst (s.2.map it)), .un, .un, .un, .un, .un, .un, .tk [(Pt, qL)]]) (List.range size) (fun (i : Nat) => B.int (0 + (i : Int))) (lsC size fuel) (rows.filter nzRow, []) fin PassesOwn.never rfl
        (v_rng1 T.range (a_cons (e_var 1) a_nil) (by omega)) hz (Weak.refl _) (fun u u' i hi hst => ?_) ?_
      · have hi' := List.mem_range.mp hi
        obtain ⟨left, found⟩ := u
        unfold lsC at hst
        split at hst
        · rename_i hg
          obtain ⟨g1, g2, g3⟩ := hg
          rw [List.all_eq_true] at g1
          simp only at g1 g2 g3
          rw [show (0 + (i : Int)) = (i : Int) by omega]
          refine ⟨_, _, g_name 4 sc_law_span_rows.nd, ?_⟩
          -- the two parts
          refine q_set (x := lB2 (left.filter fun r => decide (hd i r ≠ 0))) 5 (e_of (f_cv (f_lc (own := [("_law_row", 8)]) left it (fun r => [.va (lB2 rows), .va (.int (size : Int)), .va (lB2 left), .un, .va (.int (i : Int)), .un, .un, .un, .va (it r), .un, .un]) (fun r => decide (hd i r ≠ 0)) it rfl sc_law_span_rows.nd
            (v_list (e_var 2)) (blkOk_by (N := NSp) (sc := defScope st_law_span_rows) (by decide +kernel)) (blk_of _ _) (fun _ _ _ _ _ z hz => g_name 8 sc_law_span_rows.nd)
            (fun _ _ _ _ _ r hr2 => t_one (c_cv (c_ne (e_ixT (xs := iB r) (e_var 8) (e_var 4) (atI_iB (atI_D (d := 0) (by rw [okRow_len (g1 r hr2)]; exact hi')))) e_int) (by unfold hd; simp))) (fun _ _ _ _ _ r hr2 _ => e_var 8) (by rw [sizeLine_eq]; omega)) rfl)) sc_law_span_rows.nd ?_
          refine q_lcO (own := [("_law_row", 8)]) 2 left it (fun r => [.va (lB2 rows), .va (.int (size : Int)), .va (lB2 left), .un, .va (.int (i : Int)), .va (lB2 (left.filter fun r => decide (hd i r ≠ 0))), .un, .un, .va (it r), .un, .un]) (fun r => decide (hd i r = 0)) it rfl sc_law_span_rows.nd
            (v_list (e_var 2)) (blkOk_by (N := NSp) (sc := defScope st_law_span_rows) (by decide +kernel)) (blk_of _ _) (fun _ _ _ _ _ z hz => g_name 8 sc_law_span_rows.nd)
            (fun _ _ _ _ _ r hr2 => t_one (c_eq (e_ixT (xs := iB r) (e_var 8) (e_var 4) (atI_iB (atI_D (d := 0) (by rw [okRow_len (g1 r hr2)]; exact hi')))) e_int)) (fun _ _ _ _ _ r hr2 _ => e_var 8) (by rw [sizeLine_eq]; omega) ?_
          refine q_frz (xs := (left.filter fun r => decide (hd i r = 0)).map it) 2 (k := ?_)
          cases hw : wloop lsCond (lsW size i) fuel (left.filter (fun r => decide (hd i r ≠ 0)), left.filter fun r => decide (hd i r = 0)) with
          | none => rw [hw] at hst; cases hst
          | some w =>
            rw [hw] at hst
            have lens : ∀ r ∈ w.1, r.length = size := wl_inv (I := fun s => ∀ r ∈ s.1, r.length = size) (fun s s' h _ => lsW_len h) hw (fun r hr => okRow_len (g1 r (List.mem_filter.mp hr).1))
            refine q_whileM (fun (s : List (List Int) × List (List Int)) => [.va (lB2 rows), .va (.int (size : Int)), .va (lB2 s.2), .ow (.lst (found.map it)), .va (.int (i : Int)), .va (lB2 s.1), .un, .un, .un, .un, .tk [(Pt, qL)]]) lsCond (lsW size i) fuel _ w PassesOwn.never hw (Weak.refl _) (fun s k hk => ?_) (fun s s' hk hf => ?_) ?_
            · cases Option.some.inj hk
              exact c_cv (c_gt (e_len true T.len (e_var 5)) e_int) (by rw [List.length_map]; refine decide_eq_decide.mpr ?_; omega)
            · obtain ⟨P0, t, hs, ⟨p1, p2, p3, p4, p5⟩, rfl⟩ := lsW_some hf
              rw [List.all_eq_true] at p3
              obtain ⟨pm, _⟩ := sorted_by hs
              have ok : ∀ r ∈ P0 :: t, okRow size r = true := fun r hr => p3 r (pm.mem_iff.mp hr)
              have okP := ok P0 (List.mem_cons_self ..)
              have lt1 : t.length + 1 ≤ 100 := by
                have := pm.length_eq
                rw [List.length_cons] at this
                omega
              have lR : (lsRest i P0 t).length = t.length := List.length_map ..
              have lenR : ∀ r ∈ lsRest i P0 t, r.length = size := fun r hr => by
                obtain ⟨a, ha, rfl⟩ := List.mem_map.mp hr
                rw [rl_len, okRow_len (ok a (List.mem_cons_of_mem _ ha)), okRow_len okP, Nat.min_self]
              refine q_set (x := lB2 (P0 :: t)) 5 (e_cb (e_sortK 5 4 10 TB rfl rfl rfl rfl rfl rfl (.inr (.inl rfl)) rfl hr (fun r hr2 => by rw [okRow_len (p3 r hr2)]; exact hi') T.sorted T.abs (by omega)) (by rw [← hs]; rfl)) sc_law_span_rows.nd ?_
              have a0 : atI (it P0 :: t.map it) 0 = some (it P0) := atI_D (xs := it P0 :: t.map it) (i := 0) (d := .non) (by simp)
              have aP : atI (iB P0) (i : Int) = some (.int (hd i P0)) := atI_iB (atI_D (d := 0) (by rw [okRow_len okP]; exact hi'))
              refine q_lcA (own := [("_law_row", 8)]) 6 t it (fun r => [.va (lB2 rows), .va (.int (size : Int)), .va (lB2 s.2), .un, .va (.int (i : Int)), .va (lB2 (P0 :: t)), .un, .un, .va (it r), .un, .un]) (fun r => it (rlM r ((hd i r).fdiv (hd i P0)) P0)) rfl sc_law_span_rows.nd
                (v_cv (v_list (e_of (f_slL (xs := it P0 :: t.map it) (i := some 1) (j := none) (e_var 5) (i_some e_int) i_none))) (by rw [cut_one])) (blkOk_by (N := NSp) (sc := defScope st_law_span_rows) (by decide +kernel)) (blk_of _ _) (fun _ _ _ _ _ z hz => g_name 8 sc_law_span_rows.nd)
                (fun _ _ _ _ _ r hr2 => e_call (R := R_law_row_less) D hr (a_cons (e_var 8) (a_cons (e_div (i := hd i r) (j := hd i P0) (e_ixT (xs := iB r) (e_var 8) (e_var 4) (atI_iB (atI_D (d := 0) (by rw [okRow_len (ok r (List.mem_cons_of_mem _ hr2))]; exact hi')))) (e_ixT (xs := iB P0) (e_ixL (xs := it P0 :: t.map it) (e_var 5) e_int a0) (e_var 4) aP) ⟨p1, p2⟩) (a_cons (e_ixL (xs := it P0 :: t.map it) (e_var 5) e_int a0) a_nil)))
                  ⟨false, false, r, _, P0, rfl, okRow_mul (ok r (List.mem_cons_of_mem _ hr2)) okP, by rw [okRow_len (ok r (List.mem_cons_of_mem _ hr2))]; omega, rfl⟩) (by rw [sizeLine_eq]; omega) ?_
              refine q_frz (xs := t.map fun r => it (rlM r ((hd i r).fdiv (hd i P0)) P0)) 6 (k := ?_)
              have eR : (t.map fun r => it (rlM r ((hd i r).fdiv (hd i P0)) P0)) = (lsRest i P0 t).map it := by unfold lsRest; rw [List.map_map]; rfl
              rw [eR]
              refine q_set (x := lB2 (s.2 ++ (lsRest i P0 t).filter fun r => decide (hd i r = 0) && nzRow r)) 2 (e_cb (e_of (f_cat (xs := s.2.map it) (ys := ((lsRest i P0 t).filter fun r => decide (hd i r = 0) && nzRow r).map it) (e_var 2) (e_of (f_lc (own := [("_law_row", 8)]) (lsRest i P0 t) it (fun r => [.va (lB2 rows), .va (.int (size : Int)), .va (lB2 s.2), .un, .va (.int (i : Int)), .va (lB2 (P0 :: t)), .va (lB2 (lsRest i P0 t)), .un, .va (it r), .un, .un]) (fun r => decide (hd i r = 0) && nzRow r) it rfl sc_law_span_rows.nd
                (v_list (e_var 6)) (blkOk_by (N := NSp) (sc := defScope st_law_span_rows) (by decide +kernel)) (blk_of _ _) (fun _ _ _ _ _ z hz => g_name 8 sc_law_span_rows.nd)
                (fun _ _ _ _ _ r hr2 => by
                  have hl := lenR r hr2
                  cases r with
                  | nil => simp at hl; omega
                  | cons x xs => exact t_one (c_w (w_and (c_eq (e_ixT (xs := iB (x :: xs)) (e_var 8) (e_var 4) (atI_iB (atI_D (d := 0) (by rw [hl]; exact hi')))) e_int) (fun _ => w_and1 (c_w (w_or (c_ne (e_maxT rfl (room64 hr) T.max (e_var 8)) e_int) (fun _ => w_or1 (c_ne (e_minT rfl (room64 hr) T.min (e_var 8)) e_int)) (fun _ => rfl)))) (fun _ => rfl)))) (fun _ _ _ _ _ r hr2 _ => e_var 8) (by rw [lR, sizeLine_eq]; omega))) (by
                    have := List.length_filter_le (fun r => decide (hd i r = 0) && nzRow r) (lsRest i P0 t)
                    rw [List.length_map, List.length_map, sizeLine_eq]
                    omega))) (by rw [lB2, List.map_append])) sc_law_span_rows.nd ?_
              refine q_set (x := lB2 (P0 :: (lsRest i P0 t).filter fun r => decide (hd i r ≠ 0))) 5 (e_cb (e_of (f_cat (xs := [it P0]) (ys := ((lsRest i P0 t).filter fun r => decide (hd i r ≠ 0)).map it) (e_cb (e_of (f_slL (xs := it P0 :: t.map it) (i := none) (j := some 1) (e_var 5) i_none (i_some e_int))) (by rw [cut_head])) (e_of (f_lc (own := [("_law_row", 8)]) (lsRest i P0 t) it (fun r => [.va (lB2 rows), .va (.int (size : Int)), .va (lB2 (s.2 ++ (lsRest i P0 t).filter fun r => decide (hd i r = 0) && nzRow r)), .un, .va (.int (i : Int)), .va (lB2 (P0 :: t)), .va (lB2 (lsRest i P0 t)), .un, .va (it r), .un, .un]) (fun r => decide (hd i r ≠ 0)) it rfl sc_law_span_rows.nd
                (v_list (e_var 6)) (blkOk_by (N := NSp) (sc := defScope st_law_span_rows) (by decide +kernel)) (blk_of _ _) (fun _ _ _ _ _ z hz => g_name 8 sc_law_span_rows.nd)
                (fun _ _ _ _ _ r hr2 => t_one (c_cv (c_ne (e_ixT (xs := iB r) (e_var 8) (e_var 4) (atI_iB (atI_D (d := 0) (by rw [lenR r hr2]; exact hi')))) e_int) (by unfold hd; simp))) (fun _ _ _ _ _ r hr2 _ => e_var 8) (by rw [lR, sizeLine_eq]; omega))) (by
                    have := List.length_filter_le (fun r => decide (hd i r ≠ 0)) (lsRest i P0 t)
                    rw [List.length_map, sizeLine_eq]
                    show 1 + _ ≤ _
                    omega))) rfl) sc_law_span_rows.nd ?_
              exact q_nil (loop_nx (by repeat (first | exact Weak.nil | apply Weak.eq | apply Weak.un)) rfl)
            · obtain ⟨own, left'⟩ := w
              cases own with
              | nil => cases hst
              | cons P0 t =>
                have hst := Option.some.inj hst
                simp only at hst
                have lP : P0.length = size := lens P0 (List.mem_cons_self ..)
                have a0 : atI (it P0 :: t.map it) 0 = some (it P0) := atI_D (xs := it P0 :: t.map it) (i := 0) (d := .non) (by simp)
                have aP : atI (iB P0) (i : Int) = some (.int (hd i P0)) := atI_iB (atI_D (d := 0) (by rw [lP]; exact hi'))
                refine q_if (k := false) (c_cv (c_eqD (room64 hr) (e_var 5) (e_lst a_nil (by decide)) ((cmpn_lst (n := 2) (xs := it P0 :: t.map it) fun x hx => by
                  rcases List.mem_cons.mp hx with rfl | hx
                  · exact cmpn_it _
                  · obtain ⟨a, _, rfl⟩ := List.mem_map.mp hx
                    exact cmpn_it _).cmp (by omega)) nil_cmp) (by rw [eqv_nil]; rfl)) (fun h => nomatch h) (fun _ => q_nil ?_)
                refine q_app (ρ1 := [.va (lB2 rows), .va (.int (size : Int)), .va (lB2 left'), .ow (.lst (found.map it)), .va (.int (i : Int)), .va (lB2 (P0 :: t)), .un, .un, .un, .un, .tk [(Pt, qL)]]) (xs := found.map it) (ys := found.map it) (x := it (if 0 < hd i P0 then P0 else P0.map fun e => -e)) 3 (e_if (k := decide (0 < hd i P0)) (c_gt (e_ixT (xs := iB P0) (e_ixL (xs := it P0 :: t.map it) (e_var 5) e_int a0) (e_var 4) aP) e_int) (fun hk => ?_) (fun hk => ?_)) (by rw [List.length_map, sizeLine_eq]; omega) ?_
                · rw [if_pos (of_decide_eq_true hk)]
                  exact e_ixL (xs := it P0 :: t.map it) (e_var 5) e_int a0
                · rw [if_neg (of_decide_eq_false hk)]
                  exact e_cb (e_tuple true T.tuple (e_of (f_lcA (own := [("_law_entry", 9)]) P0 B.int (fun e => [.va (lB2 rows), .va (.int (size : Int)), .va (lB2 left'), .un, .va (.int (i : Int)), .va (lB2 (P0 :: t)), .un, .un, .un, .va (.int e), .un]) (fun e => .int (-e)) rfl sc_law_span_rows.nd
                    (v_tup (e_ixL (xs := it P0 :: t.map it) (e_var 5) e_int a0)) (blkOk_by (N := NSp) (sc := defScope st_law_span_rows) (by decide +kernel)) (blk_of _ _) (fun _ _ _ _ _ z hz => g_name 9 sc_law_span_rows.nd)
                    (fun _ _ _ _ _ e he => e_neg (e_var 9)) (by rw [lP, sizeLine_eq]; omega)))) (by rw [it, iB, List.map_map]; rfl)
                · rw [← hst, show found.map it ++ [it (if 0 < hd i P0 then P0 else P0.map fun e => -e)] = (found ++ [if 0 < hd i P0 then P0 else P0.map fun e => -e]).map it from by rw [List.map_append]; rfl]
                  exact q_nil (loop_nx (by repeat (first | exact Weak.nil | apply Weak.eq | apply Weak.un)) rfl)
        · cases hst
      · refine q_forZ (fun (s : List (List Int)) => [.va (lB2 rows), .va (.int (size : Int)), .va (lB2 fin.1), .ow (.lst (s.map it)), .un, .un, .un, .un, .un, .un, .tk [(Pt, qL)]]) (List.range (size - 1)) (fun (i : Nat) => B.int (1 + (i : Int))) (lsE size) fin.2 q PassesOwn.never rfl
          (v_cv (v_rng2 (lo := 1) (hi := (size : Int)) T.range (a_cons e_int (a_cons (e_var 1) a_nil)) (by omega) (by omega)) (by rw [show ((size : Int) - 1).toNat = size - 1 by omega]; rfl)) hq (Weak.refl _) (fun u u' i hi hst => ?_) ?_
        · have hi' := List.mem_range.mp hi
          rw [show (1 + (i : Int)) = ((i + 1 : Nat) : Int) by omega]
          refine ⟨_, _, g_name 4 sc_law_span_rows.nd, ?_⟩
          unfold lsE at hst
          refine q_forZ (fun (s : List (List Int)) => [.va (lB2 rows), .va (.int (size : Int)), .va (lB2 fin.1), .ow (.lst (s.map it)), .va (.int ((i + 1 : Nat) : Int)), .un, .un, .un, .un, .un, .tk [(Pt, qL)]]) (List.range (i + 1)) (fun (j : Nat) => B.int (0 + (j : Int))) (lsD size (i + 1)) u u' PassesOwn.never rfl
            (v_rng1 T.range (a_cons (e_var 4) a_nil) (by omega)) hst (Weak.refl _) (fun v v' j hj hst => ?_) ?_
          · have hj' := List.mem_range.mp hj
            rw [show (0 + (j : Int)) = (j : Int) by omega]
            refine ⟨_, _, g_name 7 sc_law_span_rows.nd, ?_⟩
            unfold lsD at hst
            split at hst
            · rename_i hg
              obtain ⟨g1, g2, g3, g4, g5⟩ := hg
              have hst := Option.some.inj hst
              have lv : (v.map it).length = v.length := List.length_map ..
              have b1 : atI (v.map it) (j : Int) = some (it (v.getD j [])) := atI_map it (atI_D (by omega))
              have b2 : atI (v.map it) ((i + 1 : Nat) : Int) = some (it (v.getD (i + 1) [])) := atI_map it (atI_D (by omega))
              have b3 : atI (iB (v.getD j [])) ((i + 1 : Nat) : Int) = some (.int (hd (i + 1) (v.getD j []))) := atI_iB (atI_D (d := 0) (by rw [okRow_len g4]; omega))
              have b4 : atI (iB (v.getD (i + 1) [])) ((i + 1 : Nat) : Int) = some (.int (hd (i + 1) (v.getD (i + 1) []))) := atI_iB (atI_D (d := 0) (by rw [okRow_len g3]; omega))
              refine q_put (xs := v.map it) (x := it (rlM (v.getD j []) ((hd (i + 1) (v.getD j [])).fdiv (hd (i + 1) (v.getD (i + 1) []))) (v.getD (i + 1) []))) (j := j) (k := (j : Int)) 3
                (e_call (R := R_law_row_less) D hr (a_cons (e_ixO (xs := v.map it) 3 rfl (e_var 7) b1) (a_cons (e_div (e_ixT (xs := iB (v.getD j [])) (e_ixO (xs := v.map it) 3 rfl (e_var 7) b1) (e_var 4) b3) (e_ixT (xs := iB (v.getD (i + 1) [])) (e_ixO (xs := v.map it) 3 rfl (e_var 4) b2) (e_var 4) b4) ⟨g1, g2⟩) (a_cons (e_ixO (xs := v.map it) 3 rfl (e_var 4) b2) a_nil)))
                  ⟨false, false, _, _, _, rfl, okRow_mul g4 g3, by rw [okRow_len g4]; omega, rfl⟩) (e_var 7) (by rw [lv]; exact ixN_nat (by omega)) ?_
              rw [← hst, show (v.map it).set j (it (rlM (v.getD j []) ((hd (i + 1) (v.getD j [])).fdiv (hd (i + 1) (v.getD (i + 1) []))) (v.getD (i + 1) []))) = (v.set j (rlM (v.getD j []) ((hd (i + 1) (v.getD j [])).fdiv (hd (i + 1) (v.getD (i + 1) []))) (v.getD (i + 1) []))).map it from (List.map_set ..).symm]
              exact q_nil (loop_nx (by repeat (first | exact Weak.nil | apply Weak.eq | apply Weak.un)) rfl)
            · cases hst
          · exact q_nil (loop_nx (by repeat (first | exact Weak.nil | apply Weak.eq | apply Weak.un)) rfl)
        · refine q_frz (xs := q.map it) 3 (k := ?_)
          exact q_ret (e_var 3) rfl
end
end Q
end

/-! text W26 -/
section
set_option Elab.async false
set_option linter.all false
set_option maxRecDepth 100000
/-! Ideal.__init__ that raises; made_or_none -/
namespace Q
open PySem PySem.Spec PyProof.Rows L2
abbrev NId : List Str := ["self", "order", "rows", "frame", "told", "place", "row", "texts", "entry"]
def R_ideal_bad (bs : List B) : Prop := ∃ n v frows, ∃ size : Nat, ∃ units, bs = [.int n, v] ∧ known v ∧ R_require_ideal_order [.int n] .non ∧ R_frame_init [.int n] [.int n, lB frows, .int (size : Int), il units] ∧ R_are_ideal_rows [frB n frows size units, v] (.bl false)
def R_law_made_or_none (bs : List B) (r : B) : Prop := ∃ n v, bs = [.int n, v] ∧ ((r = .non ∧ R_ideal_bad [.int n, v]) ∨ ∃ frows size units rows sz, v = rB rows ∧ r = rB rows ∧ R_ideal_init [.int n, rB rows] [frB n frows size units, .int n, rB rows, .int sz, .str (idT rows n)])
abbrev st_law_made_or_none : Stmt := top 87
theorem sc_law_made_or_none : FnScope ["_law_order", "_law_value"] ["_law_order", "_law_value"] (defScope st_law_made_or_none) := ⟨rfl, rfl, rfl, by decide +kernel, rfl, by decide +kernel, by decide +kernel⟩
section
variable {X : Cx} {C : Ct} {a b : Expr} {ρ ρ1 ρ2 : List Sl} {x y : B} {pos : Pos} {post : Out → Prop}
theorem s_par (i j : Nat) {n m : Str} {px py pt : Pos} {kt k2 : Nat} {pt2 : Pos} (ha : EB C X a ρ x ρ1) (hb : EB C X b ρ1 y ρ2) (hc : X.calm = true) (hN : X.N.Nodup) (k : post (.nx ((ρ2.set i (.va x)).set j (.va y)))) (hij : i ≠ j := by decide) (hi : X.N[i]? = some n := by rfl) (hj : X.N[j]? = some m := by rfl)
    (hx : X.env.scope.names.lookup n = some .local := by rfl) (hy : X.env.scope.names.lookup m = some .local := by rfl) (hw : swappedStores [.Tuple [.Name n px, .Name m py] kt pt] (.Tuple [a, b] k2 pt2) X.env = pure (some [n, m]) := by rfl)
    (hs : swapsWithSole [.Tuple [.Name n px, .Name m py] kt pt] (.Tuple [a, b] k2 pt2) pos.line X.env = pure false := by rfl)
    (hst : starEach [a, b] X.env = (false, eval a X.env) :: starEach [b] X.env := by rfl) (hst2 : starEach [b] X.env = [(false, eval b X.env)] := by rfl) : S1 C X (.Assign [.Tuple [.Name n px, .Name m py] kt pt] (.Tuple [a, b] k2 pt2) pos) ρ post :=
  ps_mono (ps_par hc hN hi hj hij hx hy (a_cons ha (a_cons hb a_nil hst2) hst) hw hs) fun D σ H ⟨β, H0, V, K⟩ => ⟨β, H0, V, fun vs H1 H1' e1 V1 d1 => by
    cases d1 with
    | cons d1 d2 =>
      cases d2 with
      | cons d2 d3 =>
        cases d3
        exact ⟨_, _, rfl, K.1 _ k _ H1 H1' e1 ((V1.set d1).set d2)⟩⟩
end
section
variable {P : Program} {w : World} {K : PySem.W.Frag} {mg : Str → Option Value} {base : Heap} {C : Ct}
theorem ok_ideal_bad {f : Addr} {fd : FuncData} (F : Fun K "__init__" "Ideal.__init__" st_ideal_init f fd) (T : Bi mg) (G : CF K mg C) (GX : Xc K mg "InvalidIdeal" (C.cls 5))
    (D1 : Dn P w K mg base "require_ideal_order" 3 (spR C R_require_ideal_order)) (D2 : Mn P w K mg base C "Frame" 0 4 (spI C 0 R_frame_init)) (D3 : Dn P w K mg base "are_ideal_rows" 4 (spR C R_are_ideal_rows)) (hb : Binds K fd ["self", "order", "rows"] []) : FnR P w K mg base (L2.CX P w) 6 f (spIX C 4 (C.cls 5) R_ideal_bad) := by
  refine initX_ok F sc_ideal_init hb (fun bs h => ?_) (fun cdv A outer s H E dx bs hr h tk => ?_)
  · obtain ⟨n, v, frows, size, units, rfl, _⟩ := h
    rfl
  · obtain ⟨n, v, frows, size, units, rfl, ⟨t, ht⟩, h1, h2, h3⟩ := h
    refine x_ifF (ρ1 := [.ow (.ins 4 dx []), .va (.int n), .va v, .un, .un, .un, .un, .un, .un]) (c_val (e_isiC T.isi (e_var 2) (e_cl 3 G.made) ht (G.isT _ (tyB_mem ht) 3 (by omega)))) ?_
    refine x_cons (ρ1 := [.ow (.ins 4 dx []), .va (.int n), .va v, .un, .un, .un, .un, .un, .un]) (ps_mono (ps_expr (e_call (R := R_require_ideal_order) D1 (hr.mono (by omega)) (a_cons (e_var 1) a_nil) h1) rfl) fun D σ H ⟨β, H0, V, q⟩ => ⟨β, H0, V, fun v H1 H1' e1 V1 d1 => q.1 _ rfl σ H1 H1' e1 V1⟩) ?_
    refine x_cons (ρ1 := [.ow (.ins 4 dx []), .va (.int n), .va v, .va (frB n frows size units), .va v, .un, .un, .un, .un]) (s_par (x := frB n frows size units) (y := v) 3 4 (e_make D2 hr (a_cons (e_var 1) a_nil) h2) (e_var 2) rfl sc_ideal_init.nd rfl) ?_
    refine x_ifT (ρ1 := [.ow (.ins 4 dx []), .va (.int n), .va v, .va (frB n frows size units), .va v, .un, .un, .un, .un]) (c_not (k := false) (c_val (e_call (R := R_are_ideal_rows) D3 (hr.mono (by omega)) (a_cons (e_var 3) (a_cons (e_var 4) a_nil)) h3))) ?_
    exact x_raise (W := fun cls d _ H' => E cls d H') GX rfl tk trivial
theorem ok_law_made_or_none {f : Addr} {fd : FuncData} (F : Fun K "_law_made_or_none" "_law_made_or_none" st_law_made_or_none f fd) (GX : Xc K mg "InvalidIdeal" (C.cls 5)) (D1 : Mn P w K mg base C "Ideal" 4 6 (spI C 4 R_ideal_init)) (D2 : MnX P w K mg base C "Ideal" 4 6 (spIX C 4 (C.cls 5) R_ideal_bad))
    (D3 : ∀ X : Cx, X.prog = P → X.w = w → X.K = K → X.mg = mg → X.base = base → Pr X C 4 "rows" 1 (spR C (R_fld 2))) (hb : Binds K fd ["_law_order", "_law_value"] []) : FnR P w K mg base CX0 8 f (spR C R_law_made_or_none) := by
  refine def_ok F sc_law_made_or_none hb (fun bs r h => ?_) (fun cdv A outer s H E bs r hr h => ?_)
  · obtain ⟨n, v, rfl, _⟩ := h
    rfl
  · obtain ⟨n, v, rfl, h⟩ := h
    rcases h with ⟨rfl, hbad⟩ | ⟨frows, size, units, rows, sz, rfl, rfl, hok⟩
    · exact q_tryX (ρ1 := [.va (.int n), .va v]) GX D2 (D3 _ rfl rfl rfl rfl rfl) hr (hr.mono (by omega)) rfl rfl (fun pn xe => a_cons (e_var 0) (a_cons (e_var 1) a_nil)) hbad rfl
    · exact q_tryOk (ρ1 := [.va (.int n), .va (rB rows)]) GX rfl rfl (fun pn xe => e_prop (D3 _ rfl rfl rfl rfl rfl) (e_make D1 hr (a_cons (e_var 0) (a_cons (e_var 1) a_nil)) hok) (hr.mono (by omega)) ⟨n, frows, size, units, rows, sz, rfl, rfl⟩) rfl
end
end Q
end

/-! text W27 -/
section
set_option Elab.async false
set_option linter.all false
set_option maxRecDepth 100000
/-! Ideal.__iter__ -/
namespace Q
open PySem PySem.Spec PyProof.Rows L2
def R_id_iter (bs ws : List B) : Prop := ∃ n frows size units rows sz, bs = [idB n frows size units rows sz] ∧ ws = rows.map it
section
variable {P : Program} {w : World} {K : PySem.W.Frag} {mg : Str → Option Value} {base : Heap} {C : Ct}
theorem ok_id_iter {f : Addr} {fd : FuncData} (F : Fun K "__iter__" "Ideal.__iter__" st_id_iter f fd) (T : Bi mg) (S2 : Sf K C 4 "own_rows" 2) (hb : Binds K fd ["self"] []) : FnR P w K mg base CX0 1 f (spIt C R_id_iter) := by
  refine iter_ok F sc_id_iter hb (fun bs r h => ?_) rfl T.iter (fun cdv A outer s H E bs ws hr h => ?_) (fun _ _ _ _ _ _ => rfl) (fun _ _ _ _ _ _ => rfl)
  · obtain ⟨n, frows, size, units, rows, sz, rfl, _⟩ := h
    rfl
  · obtain ⟨n, frows, size, units, rows, sz, rfl, rfl⟩ := h
    exact e_at S2 (e_var 0)
end
end Q
end

/-! text W28 -/
section
set_option Elab.async false
set_option linter.all false
set_option maxRecDepth 100000
/-! right -/
namespace Q
open PySem PySem.Spec PyProof.Rows L2
abbrev NRi : List Str := ["_law_dice_here", "_law_order", "_law_rows", "_law_value", "_law_due", "_law_ideal", "_law_text", "_law_turn", "_law_entries", "_law_odd", "_law_entry", "_law_row", "$"]
abbrev st_law_right : Stmt := top 89
theorem sc_law_right : FnScope NRi ["_law_dice_here"] (defScope st_law_right) := ⟨rfl, rfl, rfl, by decide +kernel, rfl, by decide +kernel, by decide +kernel⟩
/-- all that the law's one draw shows -/
structure RightOk (RS : List B → B → Prop) (d : Dice) (n : Int) (rows : List (List Int)) (d1 d2 d3 : Dice) (vals : List B) (due : B → B) (isR : B → Bool) (frows : List (List Int)) (size : Nat) (units : List Int) (sz : Int) (Ds : Nat → Dice) (Es : Nat → List Int) (Bs : Nat → Bool) (t2 t1 ts : B) (row0 : List Int) : Prop where
  order : R_law_small_order d.bs [] (.int n) d1.bs
  drawn : R_law_ideal_drawn RS d1.bs [.int n] (rB rows) d2.bs
  near : R_law_near d2.bs [rB rows] (.lst vals) d3.bs
  judged : ∀ v ∈ vals, R_law_are_ideal_rows [.int n, v] (.bl (isR v)) ∧ due v = (if isR v then v else .non) ∧ R_law_made_or_none [.int n, v] (due v) ∧ Cmp (due v)
  init : R_ideal_init [.int n, rB rows] [frB n frows size units, .int n, rB rows, .int sz, .str (idT rows n)]
  tx : TxOk rows n
  txl : (Txt.join "/" (rows.map rowT) ++ " of order ").length ≤ sizeLine ∧ (Txt.join "/" (rows.map rowT) ++ " of order " ++ intT n).length ≤ sizeLine
  cmp4 : Cmp (.lst [.int n, .int sz, .str (idT rows n), .int (rows.length : Int)])
  lsz : R_law_ideal_size [rB rows] (.int sz)
  cmpR : Cmp (.lst (rows.map it))
  eqT : R_id_eq [idB n frows size units rows sz, idB n frows size units rows sz] (.bl true)
  len0 : 1 ≤ rows.length ∧ rows.length ≤ 100
  ds0 : Ds 0 = d3
  draws : ∀ i, i < 6 → (if 1 < i then R_law_turn_drawn (Ds i).bs [.int n, .int 5] (it (Es i)) (Ds (i + 1)).bs else R_law_pick (Ds i).bs [rB rows] (it (Es i)) (Ds (i + 1)).bs) ∧ (∃ fr, R_turn_init [.int n, it (Es i)] [it (Es i), fr, .int n] ∧ R_id_contains [idB n frows size units rows sz, .ob 2 [it (Es i), fr, .int n]] (.bl (Bs i))) ∧ R_law_is_in_rows [rB rows, it (Es i)] (.bl (Bs i))
  row0 : rows[0]? = some row0
  tw2 : R_turn_whole [.cl 2, .int (n * 2), .int 0] t2
  tw1 : R_turn_whole [.cl 2, .int n, .int 0] t1
  tws : R_turn_whole [.cl 2, .int n, .int sz] ts
  odd2 : R_id_contains [idB n frows size units rows sz, t2] (.bl false)
  odds : R_id_contains [idB n frows size units rows sz, ts] (.bl true)
  nsm : -(2 ^ 62) ≤ n ∧ n ≤ 2 ^ 62
def R_law_right (RS : List B → B → Prop) (ds bs : List B) (r : B) (ds' : List B) : Prop := ∃ d n rows d1 d2 d3 vals due isR frows size units sz Ds Es Bs t2 t1 ts row0, ds = d.bs ∧ bs = [] ∧ RightOk RS d n rows d1 d2 d3 vals due isR frows size units sz Ds Es Bs t2 t1 ts row0 ∧ r = .bl true ∧ ds' = (Ds 6).bs
/-- what stands behind the calls -/
structure RightD (P : Program) (w : World) (K : PySem.W.Frag) (mg : Str → Option Value) (base : Heap) (C : Ct) (Tb : List (Addr × Str)) (RS : List B → B → Prop) : Prop where
  order : Dn P w K mg base "_law_small_order" 3 (spD C R_law_small_order)
  drawn : Dn P w K mg base "_law_ideal_drawn" 8 (spDT C Tb (R_law_ideal_drawn RS))
  near : Dn P w K mg base "_law_near" 2 (spD C R_law_near)
  isR : Dn P w K mg base "_law_are_ideal_rows" 5 (spR C R_law_are_ideal_rows)
  made : Dn P w K mg base "_law_made_or_none" 8 (spR C R_law_made_or_none)
  ideal : Mn P w K mg base C "Ideal" 4 6 (spI C 4 R_ideal_init)
  turn : Mn P w K mg base C "Turn" 2 6 (spI C 2 R_turn_init)
  lsz : Dn P w K mg base "_law_ideal_size" 1 (spR C R_law_ideal_size)
  tdr : Dn P w K mg base "_law_turn_drawn" 3 (spD C R_law_turn_drawn)
  pick : Dn P w K mg base "_law_pick" 2 (spD C R_law_pick)
  inr : Dn P w K mg base "_law_is_in_rows" 2 (spR C R_law_is_in_rows)
  porder : ∀ X : Cx, X.prog = P → X.w = w → X.K = K → X.mg = mg → X.base = base → Pr X C 4 "order" 1 (spR C (R_fld 1))
  psize : ∀ X : Cx, X.prog = P → X.w = w → X.K = K → X.mg = mg → X.base = base → Pr X C 4 "size" 1 (spR C (R_fld 3))
  ostr : ∀ X : Cx, X.prog = P → X.w = w → X.K = K → X.mg = mg → X.base = base → Ow X C 4 "__str__" 1 (spR C R_id_str)
  olen : ∀ X : Cx, X.prog = P → X.w = w → X.K = K → X.mg = mg → X.base = base → Ow X C 4 "__len__" 1 (spR C R_id_len)
  oiter : ∀ X : Cx, X.prog = P → X.w = w → X.K = K → X.mg = mg → X.base = base → Ow X C 4 "__iter__" 1 (spIt C R_id_iter)
  oeq : ∀ X : Cx, X.prog = P → X.w = w → X.K = K → X.mg = mg → X.base = base → Ow X C 4 "__eq__" 1 (spR C R_id_eq)
  ocon : ∀ X : Cx, X.prog = P → X.w = w → X.K = K → X.mg = mg → X.base = base → Ow X C 4 "__contains__" 3 (spR C R_id_contains)
  whole : ∀ X : Cx, X.prog = P → X.w = w → X.K = K → X.mg = mg → X.base = base → Cm X C 2 "whole" 9 (spR C R_turn_whole)
  ne : PySem.W.findIn K (.ref (C.cls 4)) "__ne__" = some (some (.builtin "object.__ne__"))
  mro : PySem.W.mroIn K (C.cls 4) (.type "object") = some true
  nf4 : PySem.W.notFirst K (C.cls 4) (.ref (C.cls 4)) = true
  nft : PySem.W.notFirst K (C.cls 4) (.type "tuple") = true
abbrev sc_ri : Scope := { kind := .function, names := [(".0", .local), ("_law_row", .local)], isGenerator := false, isCoroutine := false }
theorem Str_len (a b : Str) : (a ++ b).length = a.length + b.length := by
  show (a.cps ++ b.cps).size = a.cps.size + b.cps.size
  rw [Array.size_append]
theorem idT_eq (rows : List (List Int)) (n : Int) : idT rows n = Txt.join "/" (rows.map rowT) ++ " of order " ++ intT n := by
  unfold idT
  rw [Str.empty_append, Str.append_assoc]
theorem cmp_non : Cmp .non := ⟨rfl, rfl⟩
section
variable {P : Program} {w : World} {K : PySem.W.Frag} {mg : Str → Option Value} {base : Heap} {C : Ct} {Tb : List (Addr × Str)} {RS : List B → B → Prop}
theorem ok_law_right {f : Addr} {fd : FuncData} (F : Fun K "_law_right" "_law_right" st_law_right f fd) (T : Bi mg) (G : CF K mg C) (D : RightD P w K mg base C Tb RS) (hb : Binds K fd ["_law_dice_here"] []) : FnR P w K mg base CX0 11 f (spDT C Tb (R_law_right RS)) := by
  refine defDT_ok F sc_law_right hb (by decide) (fun ds bs r ds' h => ?_) (fun cdv A outer s H E ds bs r ds' hr h => ?_)
  · obtain ⟨d, n, rows, d1, d2, d3, vals, due, isR, frows, size, units, sz, Ds, Es, Bs, t2, t1, ts, row0, rfl, rfl, _⟩ := h
    rfl
  · obtain ⟨d, n, rows, d1, d2, d3, vals, due, isR, frows, size, units, sz, Ds, Es, Bs, t2, t1, ts, row0, rfl, rfl, O, rfl, rfl⟩ := h
    refine q_set (x := .int n) 1 (e_callD (R := R_law_small_order) (ds' := d1.bs) 0 D.order (hr.mono (by omega)) a_nil O.order) sc_law_right.nd ?_
    refine q_set (x := rB rows) 2 (e_callDT (T := Tb) (R := R_law_ideal_drawn RS) (ds' := d2.bs) 0 12 D.drawn (hr.mono (by omega)) (a_cons (e_var 1) a_nil) O.drawn rfl) sc_law_right.nd ?_
    refine q_forI (fun (_ : Unit) => [.ow (.lst d3.bs), .va (.int n), .va (rB rows), .un, .un, .un, .un, .un, .un, .un, .un, .un, .tk Tb]) vals id (fun u _ => u) () (fun _ _ => True) PassesOwn.never rfl
      (v_cv (v_list (e_callD (R := R_law_near) (ds' := d3.bs) 0 D.near (hr.mono (by omega)) (a_cons (e_var 2) a_nil) O.near)) (List.map_id _).symm) (Weak.refl _) trivial (fun i u v hv _ => ?_) (fun _ => ?_)
    · refine ⟨trivial, _, _, g_name 3 sc_law_right.nd, ?_⟩
      obtain ⟨o1, o2, o3, o4⟩ := O.judged v (List.mem_of_getElem? hv)
      refine q_set (ρ1 := [.ow (.lst d3.bs), .va (.int n), .va (rB rows), .va v, .un, .un, .un, .un, .un, .un, .un, .un, .tk Tb]) (x := due v) 4 (e_if (k := isR v) (c_val (e_call (R := R_law_are_ideal_rows) D.isR (hr.mono (by omega)) (a_cons (e_var 1) (a_cons (e_var 3) a_nil)) o1)) (fun hk => ?_) (fun hk => ?_)) sc_law_right.nd ?_
      · rw [o2, hk]
        exact e_var 3
      · rw [o2, hk]
        exact e_non
      · refine q_if (k := false) (c_cv (c_neD (room64 hr) (e_call (R := R_law_made_or_none) D.made (hr.mono (by omega)) (a_cons (e_var 1) (a_cons (e_var 3) a_nil)) o3) (e_var 4) o4 o4) (by rw [eqv_self o4]; rfl)) (fun h => nomatch h) (fun _ => ?_)
        exact q_nil (q_nil (loop_nx (by repeat (first | exact Weak.nil | apply Weak.eq | apply Weak.un)) rfl))
    · refine q_set (x := idB n frows size units rows sz) 5 (e_make D.ideal (hr.mono (by omega)) (a_cons (e_var 1) (a_cons (e_var 2) a_nil)) O.init) sc_law_right.nd ?_
      have lr := O.len0
      refine q_set (x := .str (idT rows n)) 6 (e_cb (e_catS (s := Txt.join "/" (rows.map rowT) ++ " of order ") (t := intT n) (e_catS (s := Txt.join "/" (rows.map rowT)) (t := " of order ") (e_join (s := "/") (ts := rows.map rowT) e_str (e_of (f_cv (f_lcA (own := [("_law_row", 11)]) rows it (fun r => [.un, .va (.int n), .va (rB rows), .un, .un, .va (idB n frows size units rows sz), .un, .un, .un, .un, .un, .va (it r), .un]) (fun r => .str (rowT r)) rfl sc_law_right.nd
          (v_tup (e_var 2)) (blkOk_by (N := NRi) (sc := defScope st_law_right) (by decide +kernel)) (blk_of _ _) (fun _ _ _ _ _ z hz => g_name 11 sc_law_right.nd)
          (fun s' H' Ca cl fp r hrr => e_join (s := " ") (ts := r.map intT) e_str (e_of (f_cv (f_lcA (own := [("_law_entry", 10)]) r B.int (fun a => [.un, .va (.int n), .va (rB rows), .un, .un, .va (idB n frows size units rows sz), .un, .un, .un, .un, .va (.int a), .va (it r), .un]) (fun a => .str (intT a)) rfl sc_law_right.nd
            (v_tup (e_var 11)) (blkOk_by (N := NRi) (sc := sc_ri) (by decide +kernel)) (blk_of _ _) (fun _ _ _ _ _ z hz => g_name 10 sc_law_right.nd)
            (fun _ _ _ _ _ a ha => e_strI T.str (e_var 10) (O.tx.lg r hrr a ha)) (by rw [sizeLine_eq]; have := O.tx.len.2 r hrr; omega)) (by rw [List.map_map]; rfl))) (O.tx.row r hrr)) (by rw [sizeLine_eq]; omega)) (by rw [List.map_map]; rfl))) O.tx.all) e_str (by have := O.txl.1; rw [Str_len] at this; exact this)) (e_strI T.str (e_var 1) O.tx.ln) (by have := O.txl.2; rw [Str_len] at this; exact this)) (by rw [idT_eq])) sc_law_right.nd ?_
      -- the four answers
      refine q_if (k := false) (c_cv (c_neD (room64 hr) (e_lst (a_cons (e_prop (D.porder _ rfl rfl rfl rfl rfl) (e_var 5) (hr.mono (by omega)) ⟨n, frows, size, units, rows, sz, rfl, rfl⟩) (a_cons (e_prop (D.psize _ rfl rfl rfl rfl rfl) (e_var 5) (hr.mono (by omega)) ⟨n, frows, size, units, rows, sz, rfl, rfl⟩)
        (a_cons (e_strOwn T.str (e_var 5) (D.ostr _ rfl rfl rfl rfl rfl) (hr.mono (by omega)) ⟨n, frows, size, units, rows, sz, rfl, (by have := O.txl.2; rw [← idT_eq] at this; exact this), rfl⟩) (a_cons (e_lenOwn T.len (e_var 5) (D.olen _ rfl rfl rfl rfl rfl) (hr.mono (by omega)) ⟨n, frows, size, units, rows, sz, rfl, rfl⟩ (by omega) (by omega)) a_nil)))) (by show 4 ≤ sizeLine; decide))
        (e_lst (a_cons (e_var 1) (a_cons (e_call (R := R_law_ideal_size) D.lsz (hr.mono (by omega)) (a_cons (e_var 2) a_nil) O.lsz) (a_cons (e_var 6) (a_cons (e_cv (e_len false T.len (e_var 2)) (by rw [List.length_map])) a_nil)))) (by show 4 ≤ sizeLine; decide)) O.cmp4 O.cmp4) (by rw [eqv_self O.cmp4]; rfl)) (fun h => nomatch h) (fun _ => q_nil ?_)
      have eqF : R_id_eq [idB n frows size units rows sz, rB rows] (.bl false) := ⟨n, frows, size, units, rows, sz, rB rows, rfl, .inl ⟨⟨_, rfl⟩, rfl⟩⟩
      refine q_if (k := false) (c_cv (c_w (w_or (k := false) (c_cv (c_neD (room64 hr) (e_of (f_listO rfl T.list (e_var 5) (D.oiter _ rfl rfl rfl rfl rfl) (D.olen _ rfl rfl rfl rfl rfl) (hr.mono (by omega)) ⟨n, frows, size, units, rows, sz, rfl, rfl⟩ ⟨n, frows, size, units, rows, sz, rfl, by rw [List.length_map]⟩ (by rw [List.length_map]; omega))) (e_of (f_list false T.list (e_var 2))) O.cmpR O.cmpR) (by rw [eqv_self O.cmpR]; rfl))
        (fun _ => w_or (k := false) (c_cv (c_neOwn (e_var 5) (e_make D.ideal (hr.mono (by omega)) (a_cons (e_var 1) (a_cons (e_var 2) a_nil)) O.init) (D.oeq _ rfl rfl rfl rfl rfl) D.ne D.mro (hr.mono (by omega)) D.nf4 O.eqT) rfl) (fun _ => w_or1 (c_eqOwn (y := rB rows) (e_var 5) (e_var 2) (D.oeq _ rfl rfl rfl rfl rfl) (hr.mono (by omega)) ⟨_, rfl, D.nft⟩ eqF)) (fun _ => rfl)) (fun _ => rfl))) rfl) (fun h => nomatch h) (fun _ => q_nil ?_)
      have tail : SB C (cxOf CX0 P w K mg base NRi "_law_right" (defScope st_law_right) f cdv A outer s H E).nox ((defBody st_law_right).drop 8) [.ow (.lst (Ds 6).bs), .va (.int n), .va (rB rows), .un, .un, .va (idB n frows size units rows sz), .un, .un, .un, .un, .un, .un, .tk Tb] (endD (.bl true) (Ds 6).bs) := by
        refine q_set (x := .lst [.non, .int 0, it row0, .str "0 order 3", t2, .lst [t1], idB n frows size units rows sz]) 9 (e_lst (a_cons e_non (a_cons e_int (a_cons (e_ixT (xs := rows.map it) (e_var 2) e_int (atI_map it (by
            have h0 := O.row0
            have e : atI rows ((0 : Nat) : Int) = some (rows.getD 0 []) := atI_D (by omega)
            rw [List.getD_eq_getElem?_getD, h0] at e
            exact e))) (a_cons e_str (a_cons (e_cmeth (e_cl 2 G.turn) (D.whole _ rfl rfl rfl rfl rfl) (hr.mono (by omega)) (a_cons (e_mul (e_var 1) e_int (cmul_small O.nsm (by omega))) (a_cons e_int a_nil)) O.tw2)
            (a_cons (e_lst (a_cons (e_cmeth (e_cl 2 G.turn) (D.whole _ rfl rfl rfl rfl rfl) (hr.mono (by omega)) (a_cons (e_var 1) (a_cons e_int a_nil)) O.tw1) a_nil) (by show 1 ≤ sizeLine; decide)) (a_cons (e_var 5) a_nil))))))) (by show 7 ≤ sizeLine; decide)) sc_law_right.nd ?_
        have odd : ∀ z ∈ [B.non, .int 0, it row0, .str "0 order 3", t2, .lst [t1], idB n frows size units rows sz], R_id_contains [idB n frows size units rows sz, z] (.bl false) := fun z hz => by
          simp only [List.mem_cons, List.not_mem_nil, or_false] at hz
          rcases hz with rfl | rfl | rfl | rfl | rfl | rfl | rfl
          · exact ⟨n, frows, size, units, rows, sz, _, rfl, .inr (.inl ⟨⟨_, rfl⟩, rfl⟩)⟩
          · exact ⟨n, frows, size, units, rows, sz, _, rfl, .inr (.inl ⟨⟨_, rfl⟩, rfl⟩)⟩
          · exact ⟨n, frows, size, units, rows, sz, _, rfl, .inr (.inl ⟨⟨_, rfl⟩, rfl⟩)⟩
          · exact ⟨n, frows, size, units, rows, sz, _, rfl, .inr (.inl ⟨⟨_, rfl⟩, rfl⟩)⟩
          · exact O.odd2
          · exact ⟨n, frows, size, units, rows, sz, _, rfl, .inr (.inl ⟨⟨_, rfl⟩, rfl⟩)⟩
          · exact ⟨n, frows, size, units, rows, sz, _, rfl, .inr (.inr ⟨⟨_, rfl⟩, rfl⟩)⟩
        refine q_ret (ρ1 := [.ow (.lst (Ds 6).bs), .va (.int n), .va (rB rows), .un, .un, .va (idB n frows size units rows sz), .un, .un, .un, .va (.lst [.non, .int 0, it row0, .str "0 order 3", t2, .lst [t1], idB n frows size units rows sz]), .un, .un, .tk Tb]) (e_and (ρ1 := [.ow (.lst (Ds 6).bs), .va (.int n), .va (rB rows), .un, .un, .va (idB n frows size units rows sz), .un, .un, .un, .va (.lst [.non, .int 0, it row0, .str "0 order 3", t2, .lst [t1], idB n frows size units rows sz]), .un, .un, .tk Tb]) (k := true) (l := true) ?_ (fun _ => ?_) (fun h => nomatch h)) ⟨rfl, rfl⟩
        · have e := eqv_self (x := .lst []) nil_cmp
          refine e_cb (e_eqD (x := .lst []) (y := .lst []) (room64 hr) (e_of ?_) (e_lst a_nil (by decide)) nil_cmp nil_cmp) (by rw [e])
          refine f_cv (f_lc (own := [("_law_value", 3)]) [B.non, .int 0, it row0, .str "0 order 3", t2, .lst [t1], idB n frows size units rows sz] id (fun z => [.un, .va (.int n), .va (rB rows), .va z, .un, .va (idB n frows size units rows sz), .un, .un, .un, .va (.lst [.non, .int 0, it row0, .str "0 order 3", t2, .lst [t1], idB n frows size units rows sz]), .un, .un, .un]) (fun _ => false) id rfl sc_law_right.nd
            ?_ (blkOk_by (N := NRi) (sc := defScope st_law_right) (by decide +kernel)) (blk_of _ _) (fun _ _ _ _ _ z hz => ?_) (fun _ _ _ _ _ z hz => ?_) (fun _ _ _ _ _ z hz _ => ?_) (by show 7 ≤ sizeLine; decide)) (ys := []) rfl
          · exact v_cv (v_list (e_var 9)) (List.map_id _).symm
          · exact g_name 3 sc_law_right.nd
          · exact t_one (c_inOwn (e_var 3) (e_var 5) (D.ocon _ rfl rfl rfl rfl rfl) (hr.mono (by omega)) (odd z hz))
          · exact e_var 3
        · exact e_one (e_inOwn (e_cmeth (e_cl 2 G.turn) (D.whole _ rfl rfl rfl rfl rfl) (hr.mono (by omega)) (a_cons (e_var 1) (a_cons (e_prop (D.psize _ rfl rfl rfl rfl rfl) (e_var 5) (hr.mono (by omega)) ⟨n, frows, size, units, rows, sz, rfl, rfl⟩) a_nil)) O.tws) (e_var 5) (D.ocon _ rfl rfl rfl rfl rfl) (hr.mono (by omega)) O.odds)
      refine q_forI (fun (k : Nat) => [.ow (.lst (Ds k).bs), .va (.int n), .va (rB rows), .un, .un, .va (idB n frows size units rows sz), .un, .un, .un, .un, .un, .un, .tk Tb]) (List.range 6) (fun (i : Nat) => B.int (0 + (i : Int))) (fun s _ => s + 1) 0 (fun i s => s = i) PassesOwn.never rfl
        (v_rng1 (n := 6) T.range (a_cons e_int a_nil) (by omega)) (by rw [← O.ds0]; repeat (first | exact Weak.nil | apply Weak.eq | apply Weak.un)) rfl (fun i u z hz hu => ?_) (fun _ => tail)
      subst hu
      have hz2 : u < 6 ∧ z = u := by
        obtain ⟨h1, h2⟩ := List.getElem?_eq_some_iff.mp hz
        rw [List.length_range] at h1
        rw [List.getElem_range] at h2
        exact ⟨h1, h2.symm⟩
      obtain ⟨hz2, rfl⟩ := hz2
      obtain ⟨o1, ⟨fr, o2, o3⟩, o4⟩ := O.draws z hz2
      refine ⟨rfl, _, _, g_name 7 sc_law_right.nd, ?_⟩
      refine q_set (ρ1 := [.ow (.lst (Ds (z + 1)).bs), .va (.int n), .va (rB rows), .un, .un, .va (idB n frows size units rows sz), .un, .va (.int (0 + (z : Int))), .un, .un, .un, .un, .tk Tb]) (x := it (Es z)) 8 (e_if (k := decide (1 < z)) (c_cv (c_gt (e_var 7) e_int) (by refine decide_eq_decide.mpr ?_; omega)) (fun hk => ?_) (fun hk => ?_)) sc_law_right.nd ?_
      · rw [if_pos (of_decide_eq_true hk)] at o1
        exact e_callD (R := R_law_turn_drawn) (ds' := (Ds (z + 1)).bs) 0 D.tdr (hr.mono (by omega)) (a_cons (e_var 1) (a_cons e_int a_nil)) o1
      · rw [if_neg (of_decide_eq_false hk)] at o1
        exact e_callD (R := R_law_pick) (ds' := (Ds (z + 1)).bs) 0 D.pick (hr.mono (by omega)) (a_cons (e_var 2) a_nil) o1
      · refine q_if (k := false) (c_cv (c_cmp op_ne (e_inOwn (e_make D.turn (hr.mono (by omega)) (a_cons (e_var 1) (a_cons (e_var 8) a_nil)) o2) (e_var 5) (D.ocon _ rfl rfl rfl rfl rfl) (hr.mono (by omega)) o3) (e_call (R := R_law_is_in_rows) D.inr (hr.mono (by omega)) (a_cons (e_var 2) (a_cons (e_var 8) a_nil)) o4) (o_ne rfl rfl rfl) (nomark _)) (by simp)) (fun h => nomatch h) (fun _ => ?_)
        exact q_nil (q_nil (loop_nx (by repeat (first | exact Weak.nil | apply Weak.eq | apply Weak.un)) rfl))
end
end Q
end

/-! text W29 -/
section
set_option Elab.async false
set_option linter.all false
set_option maxRecDepth 100000
/-! law -/
namespace Q
open PySem PySem.Spec PyProof.Rows L2
abbrev NLw : List Str := ["_law_script", "_law_spot", "_law_dice_here", "_law_order", "$"]
abbrev st_law : Stmt := top 90
theorem sc_law : FnScope NLw ["_law_script"] (defScope st_law) := ⟨rfl, rfl, rfl, by decide +kernel, rfl, by decide +kernel, by decide +kernel⟩
/-- how many spots -/
def spotsN (ns : List Int) : Nat := max 1 (min 3 ns.length)
structure LawOk (RS : List B → B → Prop) (ns : List Int) : Prop where
  right : ∀ i, i < spotsN ns → ∃ m e, R_law_right RS (diceOf ns (i : Int)).bs [] (.bl true) m ∧ R_law_right RS m [] (.bl true) e
  w1 : ∃ fr s u z, R_whole_ideal [.int 1] (idB 1 fr s u [[1]] z)
  w2 : ∃ fr s u z, R_whole_ideal [.int 2] (idB 2 fr s u [[1]] z)
  w3 : ∃ fr s u z, R_whole_ideal [.int 3] (idB 3 fr s u [[1, 0], [0, 1]] z)
  w30 : ∃ fr s u rows z, R_whole_ideal [.int 30] (idB 30 fr s u rows z) ∧ rows.length = 8
  six : ∃ fr s u, R_ideal_init [.int 1, rB [[6]]] [frB 1 fr s u, .int 1, rB [[6]], .int 6, .str (idT [[6]] 1)]
  bad : R_law_made_or_none [.int 4, rB [[1, 1], [0, 5]]] .non
def R_law (RS : List B → B → Prop) (bs : List B) (r : B) : Prop := ∃ ns, bs = [.scr ns] ∧ LawOk RS ns ∧ r = .bl true
theorem defT_fn {P : Program} {w : World} {K : PySem.W.Frag} {mg : Str → Option Value} {base : Heap} {C : Ct} {T : List (Addr × Str)} {x qual : Str} {st : Stmt} {f : Addr} {fd : FuncData} {N ps : List Str} {k : Nat} {R : List B → B → Prop} (F : Fun K x qual st f fd) (S : FnScope N ps (defScope st)) (hN : ps.length + 1 ≤ N.length) (len : ∀ bs r, R bs r → bs.length = ps.length)
    (hbody : ∀ (cdv : Value) (A : Around) (outer : List PySem.Env) (s : Shared) (H : Hp) (E : XK) (bs : List B) (r : B), Room k (A.deeper (envOfC qual (defScope st) s.heap.objs.size f cdv)) → R bs r →
      SB C (cxOf CX0 P w K mg base N qual (defScope st) f cdv A outer s H E).nox (defBody st) (slotsT N.length bs T) (endO r)) : FnOk P w K mg base CX0 (k + 1) f fd ps (spRT C T R) := by
  refine F.ok S (fun vs H Q E h => ?_) fun cdv A outer s H vs Q E hr h => ?_
  · obtain ⟨H0, bs, r, _, d, _, _, hR, _⟩ := h
    rw [d.len]
    exact len bs r hR
  · obtain ⟨H0, bs, r, e, d, tb, no, hR, q⟩ := h
    refine ⟨_, hbody cdv A outer s H E bs r hr hR, _, H0, sat_startT e d (by rw [len bs r hR]; exact hN) tb no, ?_, ?_, ?_, ?_, ?_⟩
    · intro ρ' p σ' G G' g W
      have er : r = .non := p
      subst er
      exact q .non G G' (stpT_of g W) .non
    · intro b ρ' p v σ' G G' g W dv
      have er : b = r := p
      subst er
      exact q v G G' (stpT_of g W) dv
    · intro ρ' p
      exact p.elim
    · intro ρ' p
      exact p.elim
    · intro bs ρ' p
      exact p.elim
theorem cmp_three : Cmp (.lst [rB [[1]], rB [[1]], rB [[1, 0], [0, 1]]]) := ⟨rfl, rfl⟩
section
variable {P : Program} {w : World} {K : PySem.W.Frag} {mg : Str → Option Value} {base : Heap} {C : Ct} {Tb : List (Addr × Str)} {RS : List B → B → Prop}
theorem ok_law {f : Addr} {fd : FuncData} (hK : K = C.K) (F : Fun K "law" "law" st_law f fd) (T : Bi mg) (D1 : Dn P w K mg base "_law_dice" 1 (spF C R_law_dice)) (D2 : Dn P w K mg base "_law_right" 11 (spDT C Tb (R_law_right RS))) (D3 : Dn P w K mg base "whole_ideal" 10 (spR C R_whole_ideal))
    (D4 : Mn P w K mg base C "Ideal" 4 6 (spI C 4 R_ideal_init)) (D5 : Dn P w K mg base "_law_made_or_none" 8 (spR C R_law_made_or_none)) (prows : ∀ X : Cx, X.prog = P → X.w = w → X.K = K → X.mg = mg → X.base = base → Pr X C 4 "rows" 1 (spR C (R_fld 2)))
    (psize : ∀ X : Cx, X.prog = P → X.w = w → X.K = K → X.mg = mg → X.base = base → Pr X C 4 "size" 1 (spR C (R_fld 3))) (olen : ∀ X : Cx, X.prog = P → X.w = w → X.K = K → X.mg = mg → X.base = base → Ow X C 4 "__len__" 1 (spR C R_id_len)) : FnOk P w K mg base CX0 12 f fd ["_law_script"] (spRT C Tb (R_law RS)) := by
  refine defT_fn F sc_law (by decide) (fun bs r h => ?_) (fun cdv A outer s H E bs r hr h => ?_)
  · obtain ⟨ns, rfl, _⟩ := h
    rfl
  · obtain ⟨ns, rfl, O, rfl⟩ := h
    refine q_forI (fun (_ : Unit) => [.va (.scr ns), .un, .un, .un, .tk Tb]) (List.range (spotsN ns)) (fun (i : Nat) => B.int (0 + (i : Int))) (fun u _ => u) () (fun _ _ => True) PassesOwn.never rfl
      (v_rng1 (n := spotsN ns) T.range (a_cons (e_cv (e_max2 rfl T.max e_int (e_min2 rfl T.min e_int (e_lenScr hK T.len (e_var 0)))) (by unfold spotsN; split <;> split <;> omega)) a_nil) (by unfold spotsN; omega)) (Weak.refl _) trivial (fun i u z hz _ => ?_) (fun _ => ?_)
    · have hz2 : i < spotsN ns ∧ z = i := by
        obtain ⟨h1, h2⟩ := List.getElem?_eq_some_iff.mp hz
        rw [List.length_range] at h1
        rw [List.getElem_range] at h2
        exact ⟨h1, h2.symm⟩
      obtain ⟨hz2, rfl⟩ := hz2
      obtain ⟨m, e, r1, r2⟩ := O.right z hz2
      have sp3 : spotsN ns ≤ 3 := by unfold spotsN; omega
      refine ⟨trivial, _, _, g_name 1 sc_law.nd, ?_⟩
      refine q_own 2 (f_call (R := R_law_dice) (xs := (diceOf ns (z : Int)).bs) D1 (hr.mono (by omega)) (a_cons (e_var 0) (a_cons (e_var 1) a_nil)) ⟨ns, _, rfl, by omega, by omega, by rw [Int.zero_add]⟩) sc_law.nd ?_
      refine q_if (k := false) (ρ1 := [.va (.scr ns), .va (.int (0 + (z : Int))), .ow (.lst e), .un, .tk Tb]) (c_w (w_or (k := false) (c_not (k := true) (c_val (e_callDT (T := Tb) (R := R_law_right RS) (ds' := m) 2 4 D2 hr a_nil r1 rfl))) (fun _ => w_or1 (c_not (k := true) (c_val (e_callDT (T := Tb) (R := R_law_right RS) (ds' := e) 2 4 D2 hr a_nil r2 rfl)))) (fun h => nomatch h))) (fun h => nomatch h) (fun _ => ?_)
      exact q_nil (q_nil (loop_nx (by repeat (first | exact Weak.nil | apply Weak.eq | apply Weak.un)) rfl))
    · obtain ⟨fr1, s1, u1, z1, w1⟩ := O.w1
      obtain ⟨fr2, s2, u2, z2, w2⟩ := O.w2
      obtain ⟨fr3, s3, u3, z3, w3⟩ := O.w3
      obtain ⟨fr30, s30, u30, rows30, z30, w30, l30⟩ := O.w30
      obtain ⟨fr6, s6, u6, h6⟩ := O.six
      have e := eqv_self cmp_three
      refine q_if (k := false) (ρ1 := [.va (.scr ns), .un, .un, .un, .tk Tb]) (c_cv (c_neD (x := .lst [rB [[1]], rB [[1]], rB [[1, 0], [0, 1]]]) (y := .lst [rB [[1]], rB [[1]], rB [[1, 0], [0, 1]]]) (room64 hr) (e_of ?_) (e_lst (a_cons (e_tup (a_cons (e_tup (a_cons e_int a_nil) (by decide)) a_nil) (by decide)) (a_cons (e_tup (a_cons (e_tup (a_cons e_int a_nil) (by decide)) a_nil) (by decide)) (a_cons (e_tup (a_cons (e_tup (a_cons e_int (a_cons e_int a_nil)) (by decide)) (a_cons (e_tup (a_cons e_int (a_cons e_int a_nil)) (by decide)) a_nil)) (by decide)) a_nil))) (by decide)) cmp_three cmp_three) (by rw [e]; rfl)) (fun h => nomatch h) (fun _ => q_nil ?_)
      · refine f_cv (f_lcA (own := [("_law_order", 3)]) [(1 : Int), 2, 3] B.int (fun r => [.va (.scr ns), .un, .un, .va (.int r), .un]) (fun r => if r = 3 then rB [[1, 0], [0, 1]] else rB [[1]]) rfl sc_law.nd
          ?_ (blkOk_by (N := NLw) (sc := defScope st_law) (by decide +kernel)) (blk_of _ _) (fun _ _ _ _ _ z hz => ?_) (fun _ _ _ _ _ z hz => ?_) (by show 3 ≤ sizeLine; decide)) (ys := _) rfl
        · exact v_tup (e_tup (a_cons e_int (a_cons e_int (a_cons e_int a_nil))) (by decide))
        · exact g_name 3 sc_law.nd
        · simp only [List.mem_cons, List.not_mem_nil, or_false] at hz
          rcases hz with rfl | rfl | rfl
          · exact e_prop (prows _ rfl rfl rfl rfl rfl) (e_call (R := R_whole_ideal) D3 (hr.mono (by omega)) (a_cons (e_var 3) a_nil) w1) (hr.mono (by omega)) ⟨1, fr1, s1, u1, _, z1, rfl, rfl⟩
          · exact e_prop (prows _ rfl rfl rfl rfl rfl) (e_call (R := R_whole_ideal) D3 (hr.mono (by omega)) (a_cons (e_var 3) a_nil) w2) (hr.mono (by omega)) ⟨2, fr2, s2, u2, _, z2, rfl, rfl⟩
          · exact e_prop (prows _ rfl rfl rfl rfl rfl) (e_call (R := R_whole_ideal) D3 (hr.mono (by omega)) (a_cons (e_var 3) a_nil) w3) (hr.mono (by omega)) ⟨3, fr3, s3, u3, _, z3, rfl, rfl⟩
      · refine q_ret (ρ1 := [.va (.scr ns), .un, .un, .un, .tk Tb]) (e_and (ρ1 := [.va (.scr ns), .un, .un, .un, .tk Tb]) (k := true) (l := true) ?_ (fun _ => e_and (ρ1 := [.va (.scr ns), .un, .un, .un, .tk Tb]) (k := true) (l := true) ?_ (fun _ => e_one ?_) (fun h => nomatch h)) (fun h => nomatch h)) rfl
        · exact e_eq (e_prop (psize _ rfl rfl rfl rfl rfl) (e_make D4 (hr.mono (by omega)) (a_cons e_int (a_cons (e_tup (a_cons (e_tup (a_cons e_int a_nil) (by decide)) a_nil) (by decide)) a_nil)) h6) (hr.mono (by omega)) ⟨1, fr6, s6, u6, _, 6, rfl, rfl⟩) e_int
        · exact e_isN (x := .non) (e_call (R := R_law_made_or_none) D5 (hr.mono (by omega)) (a_cons e_int (a_cons (e_tup (a_cons (e_tup (a_cons e_int (a_cons e_int a_nil)) (by decide)) (a_cons (e_tup (a_cons e_int (a_cons e_int a_nil)) (by decide)) a_nil)) (by decide)) a_nil)) O.bad)
        · exact e_cb (e_eq (e_lenOwn T.len (e_call (R := R_whole_ideal) D3 (hr.mono (by omega)) (a_cons e_int a_nil) w30) (olen _ rfl rfl rfl rfl rfl) (hr.mono (by omega)) ⟨30, fr30, s30, u30, rows30, z30, rfl, rfl⟩ (by omega) (by omega)) e_int) (by rw [l30]; rfl)
end
end Q
end

/-! text ML -/
section
set_option Elab.async false
set_option linter.all false
set_option maxRecDepth 100000
/-! the ten orders; products of rows, the law's and the text's -/
namespace Q
open PySem PySem.Spec PyProof.Rows L2
def smB (k : Nat) (rows : List (List Int)) : Bool := (List.range k).all fun m => (List.range k).all fun i => decide (((List.range k).map fun j => (vec (rows.getD (m + j) []) i).natAbs).sum ≤ 4)
/-- an order that the law reaches -/
structure Fl (n : Nat) (poly : List Int) (k : Nat) : Prop where
  oo : Oo n poly k
  nrm : ∀ {rs : List (List Int)} {x : List Int}, Zc poly k rs → x.length = k → (∀ e ∈ x, -4 ≤ e ∧ e ≤ 4) → (∃ e ∈ x, e ≠ 0) → In rs (vec x) → ∃ N : Int, N ≠ 0 ∧ N.natAbs ≤ 1000000000 ∧ In rs (fun i => N * ev 0 i)
  sm : smB k (rowsOf n) = true
  dbl : (frQ (2 * n)).isSome = true ∧ (polyOf (2 * n)).length ≤ 20
  lt : k < n
  le : n ≤ 14
theorem fl3 : Fl 3 po3 2 := by
  refine ⟨oo3, fun {rs x} Z hl hb hz h0 => ?_, by decide +kernel, by decide +kernel, by decide, by decide⟩
  match x, hl with
  | [a, b], _ =>
    refine nrm3 Z h0 (fun z => ?_) (hb a (by simp)) (hb b (by simp))
    obtain ⟨e, he, hne⟩ := hz
    simp only [List.mem_cons, List.not_mem_nil, or_false] at he
    omega
theorem fl4 : Fl 4 po4 2 := by
  refine ⟨oo4, fun {rs x} Z hl hb hz h0 => ?_, by decide +kernel, by decide +kernel, by decide, by decide⟩
  match x, hl with
  | [a, b], _ =>
    refine nrm4 Z h0 (fun z => ?_) (hb a (by simp)) (hb b (by simp))
    obtain ⟨e, he, hne⟩ := hz
    simp only [List.mem_cons, List.not_mem_nil, or_false] at he
    omega
theorem fl5 : Fl 5 po5 4 := by
  refine ⟨oo5, fun {rs x} Z hl hb hz h0 => ?_, by decide +kernel, by decide +kernel, by decide, by decide⟩
  match x, hl with
  | [a, b, c, d], _ =>
    refine nrm5 Z h0 (fun z => ?_) (hb a (by simp)) (hb b (by simp)) (hb c (by simp)) (hb d (by simp))
    obtain ⟨e, he, hne⟩ := hz
    simp only [List.mem_cons, List.not_mem_nil, or_false] at he
    omega
theorem fl6 : Fl 6 po6 2 := by
  refine ⟨oo6, fun {rs x} Z hl hb hz h0 => ?_, by decide +kernel, by decide +kernel, by decide, by decide⟩
  match x, hl with
  | [a, b], _ =>
    refine nrm6 Z h0 (fun z => ?_) (hb a (by simp)) (hb b (by simp))
    obtain ⟨e, he, hne⟩ := hz
    simp only [List.mem_cons, List.not_mem_nil, or_false] at he
    omega
theorem fl7 : Fl 7 po7 6 := by
  refine ⟨oo7, fun {rs x} Z hl hb hz h0 => ?_, by decide +kernel, by decide +kernel, by decide, by decide⟩
  match x, hl with
  | [a, b, c, d, e, f], _ =>
    refine nrm7 Z h0 (fun z => ?_) (hb a (by simp)) (hb b (by simp)) (hb c (by simp)) (hb d (by simp)) (hb e (by simp)) (hb f (by simp))
    obtain ⟨e, he, hne⟩ := hz
    simp only [List.mem_cons, List.not_mem_nil, or_false] at he
    omega
theorem fl8 : Fl 8 po8 4 := by
  refine ⟨oo8, fun {rs x} Z hl hb hz h0 => ?_, by decide +kernel, by decide +kernel, by decide, by decide⟩
  match x, hl with
  | [a, b, c, d], _ =>
    refine nrm8 Z h0 (fun z => ?_) (hb a (by simp)) (hb b (by simp)) (hb c (by simp)) (hb d (by simp))
    obtain ⟨e, he, hne⟩ := hz
    simp only [List.mem_cons, List.not_mem_nil, or_false] at he
    omega
theorem fl9 : Fl 9 po9 6 := by
  refine ⟨oo9, fun {rs x} Z hl hb hz h0 => ?_, by decide +kernel, by decide +kernel, by decide, by decide⟩
  match x, hl with
  | [a, b, c, d, e, f], _ =>
    refine nrm9 Z h0 (fun z => ?_) (hb a (by simp)) (hb b (by simp)) (hb c (by simp)) (hb d (by simp)) (hb e (by simp)) (hb f (by simp))
    obtain ⟨e, he, hne⟩ := hz
    simp only [List.mem_cons, List.not_mem_nil, or_false] at he
    omega
theorem fl10 : Fl 10 po10 4 := by
  refine ⟨oo10, fun {rs x} Z hl hb hz h0 => ?_, by decide +kernel, by decide +kernel, by decide, by decide⟩
  match x, hl with
  | [a, b, c, d], _ =>
    refine nrm10 Z h0 (fun z => ?_) (hb a (by simp)) (hb b (by simp)) (hb c (by simp)) (hb d (by simp))
    obtain ⟨e, he, hne⟩ := hz
    simp only [List.mem_cons, List.not_mem_nil, or_false] at he
    omega
theorem fl12 : Fl 12 po12 4 := by
  refine ⟨oo12, fun {rs x} Z hl hb hz h0 => ?_, by decide +kernel, by decide +kernel, by decide, by decide⟩
  match x, hl with
  | [a, b, c, d], _ =>
    refine nrm12 Z h0 (fun z => ?_) (hb a (by simp)) (hb b (by simp)) (hb c (by simp)) (hb d (by simp))
    obtain ⟨e, he, hne⟩ := hz
    simp only [List.mem_cons, List.not_mem_nil, or_false] at he
    omega
theorem fl14 : Fl 14 po14 6 := by
  refine ⟨oo14, fun {rs x} Z hl hb hz h0 => ?_, by decide +kernel, by decide +kernel, by decide, by decide⟩
  match x, hl with
  | [a, b, c, d, e, f], _ =>
    refine nrm14 Z h0 (fun z => ?_) (hb a (by simp)) (hb b (by simp)) (hb c (by simp)) (hb d (by simp)) (hb e (by simp)) (hb f (by simp))
    obtain ⟨e, he, hne⟩ := hz
    simp only [List.mem_cons, List.not_mem_nil, or_false] at he
    omega
/-- any order that is drawn -/
theorem fl_any (d : Dice) : ∃ n poly k, orderV d = ((n : Nat) : Int) ∧ Fl n poly k := by
  have r := roll_range d (t := 14) (by omega)
  have key : ∀ i : Nat, i < 14 → ∃ n poly k, orders.getD i 0 = ((n : Nat) : Int) ∧ Fl n poly k := fun i hi => by
    match i, hi with
    | 0, _ => exact ⟨3, _, _, rfl, fl3⟩
    | 1, _ => exact ⟨4, _, _, rfl, fl4⟩
    | 2, _ => exact ⟨4, _, _, rfl, fl4⟩
    | 3, _ => exact ⟨5, _, _, rfl, fl5⟩
    | 4, _ => exact ⟨5, _, _, rfl, fl5⟩
    | 5, _ => exact ⟨6, _, _, rfl, fl6⟩
    | 6, _ => exact ⟨7, _, _, rfl, fl7⟩
    | 7, _ => exact ⟨8, _, _, rfl, fl8⟩
    | 8, _ => exact ⟨8, _, _, rfl, fl8⟩
    | 9, _ => exact ⟨9, _, _, rfl, fl9⟩
    | 10, _ => exact ⟨10, _, _, rfl, fl10⟩
    | 11, _ => exact ⟨12, _, _, rfl, fl12⟩
    | 12, _ => exact ⟨12, _, _, rfl, fl12⟩
    | 13, _ => exact ⟨14, _, _, rfl, fl14⟩
  exact key _ (by omega)
section
variable {poly : List Int} {k n : Nat}
theorem Er_snoc : ∀ (l : List Int) (c : Int) (i : Nat), Er poly k (l ++ [c]) i = Er poly k l i + c * zp poly k l.length i
  | [], c, i => by
    show c * ev 0 i + mz poly k (fun _ => 0) i = 0 + c * ev 0 i
    rw [mz_zero]
    omega
  | a :: r, c, i => by
    show a * ev 0 i + mz poly k (Er poly k (r ++ [c])) i = a * ev 0 i + mz poly k (Er poly k r) i + c * mz poly k (zp poly k r.length) i
    rw [mz_lin (u := Er poly k r) (v := zp poly k r.length) (a := 1) (b := c) (fun i => by rw [Er_snoc r c i]; omega) i]
    omega
theorem vec_zip {a b : List Int} {c : Int} (h : a.length = b.length) (i : Nat) : vec ((a.zip b).map fun p => p.1 + c * p.2) i = vec a i + c * vec b i := by
  have e : ((a.zip b).map fun p => p.1 + c * p.2) = rlM a (-c) b := by
    unfold rlM
    refine List.map_congr_left fun p _ => ?_
    rw [Int.neg_mul]
    omega
  rw [e, rl_at h, Int.neg_mul]
  omega
/-- the row folded stands for what it stood for -/
theorem fo_Er {rows : List (List Int)} {row : List Int} (hk : 0 < k) (hz : ∀ m, m < rows.length → (rows.getD m []).length = k ∧ ∀ i, vec (rows.getD m []) i = zp poly k m i) (h1 : k ≤ row.length) (h2 : row.length ≤ rows.length) :
    (foM rows row k).length = k ∧ ∀ i, vec (foM rows row k) i = Er poly k row i := by
  have key : ∀ t, t ≤ row.length - k → ((List.range t).foldl (foS rows row k) (row.take k)).length = k ∧ ∀ i, vec ((List.range t).foldl (foS rows row k) (row.take k)) i = Er poly k (row.take (k + t)) i := by
    intro t
    induction t with
    | zero =>
      intro _
      exact ⟨by rw [List.range_zero, List.foldl_nil, List.length_take]; omega, fun i => (Er_short (row.take k) (by rw [List.length_take]; omega) i).symm⟩
    | succ t ih =>
      intro ht
      obtain ⟨a, b⟩ := ih (by omega)
      obtain ⟨f, hf⟩ : ∃ f, f = (List.range t).foldl (foS rows row k) (row.take k) := ⟨_, rfl⟩
      rw [List.range_succ, List.foldl_append, List.foldl_cons, List.foldl_nil, ← hf]
      rw [← hf] at a b
      obtain ⟨z1, z2⟩ := hz (k + t) (by omega)
      have e : row.take (k + (t + 1)) = row.take (k + t) ++ [row.getD (k + t) 0] := by
        rw [show k + (t + 1) = k + t + 1 by omega, List.take_succ, List.getD_eq_getElem?_getD, List.getElem?_eq_getElem (show k + t < row.length by omega)]
        rfl
      have l : (row.take (k + t)).length = k + t := by rw [List.length_take]; omega
      unfold foS
      split
      · rename_i h0
        refine ⟨a, fun i => ?_⟩
        rw [b, e, Er_snoc, h0]
        omega
      · refine ⟨by rw [List.length_map, List.length_zip, a, z1]; omega, fun i => ?_⟩
        rw [vec_zip (by rw [a, z1]), b, z2, e, Er_snoc, l]
  obtain ⟨a, b⟩ := key (row.length - k) (Nat.le_refl _)
  refine ⟨a, fun i => ?_⟩
  rw [show foM rows row k = (List.range (row.length - k)).foldl (foS rows row k) (row.take k) from rfl, b]
  rw [show k + (row.length - k) = row.length by omega, List.take_length]
theorem prO_bb {other : List Int} {c d : Nat} (ho : bb d other) : ∀ (l : List (Int × Nat)) (f : List Int) (m : Nat), c + d ≤ m → (∀ q ∈ l, Builtin.Int.intBits q.1 ≤ c) → bb m f → bb (m + l.length * other.length) (l.foldl (prO other) f)
  | [], _, _, _, _, hb => hb.mono (by omega)
  | q :: r, f, m, hm, h, hb => by
    rw [List.foldl_cons, List.length_cons, Nat.add_mul, Nat.one_mul]
    have h1 : bb (m + other.length) (prO other f q) := by
      unfold prO
      split
      · exact hb.mono (by omega)
      · have z := pr_bb (a := q.2) (c := c) (d := d) (h q (List.mem_cons_self ..)) other.zipIdx f m hm (fun x hx => ho _ (zipIdx_in hx)) hb
        rw [List.length_zipIdx] at z
        exact z
    exact (prO_bb ho r _ _ (by omega) (fun x hx => h x (List.mem_cons_of_mem _ hx)) h1).mono (by omega)
theorem prM_bb {size : Nat} {one other : List Int} {c d : Nat} (h1 : bb c one) (h2 : bb d other) : bb (c + d + one.length * other.length) (prM size one other) := by
  unfold prM
  have := prO_bb (c := c) h2 one.zipIdx (List.replicate (2 * size) 0) (c + d) (Nat.le_refl _) (fun q hq => h1 _ (zipIdx_in hq)) (fun e he => by
    rw [(List.mem_replicate.mp he).2]
    have : Builtin.Int.intBits 0 = 0 := by decide
    omega)
  rw [List.length_zipIdx] at this
  exact this
theorem Fl.pl (F : Fl n poly k) : poly.length = k + 1 := F.oo.mo.len
theorem Fl.cyc (F : Fl n poly k) : R_law_cyclotomic [.int n] (il poly) := ⟨n, poly, rfl, by have := F.oo.ord; omega, F.oo.law, rfl⟩
/-- the law's cut of a row -/
theorem Fl.cut (F : Fl n poly k) {m : Nat} {row : List Int} (hb : bb m row) (h1 : k ≤ row.length + n) (h2 : row.length + n ≤ 1000) (hm : m ≤ 10000000) : ∃ q, R_law_turn_cut [.int n, il row] (it q) ∧ q.length = k ∧ (∀ i, vec q i = Er poly k row i) ∧ bb (m + 3000) q := by
  obtain ⟨q, a, b, c, d⟩ := ct_ok (n := n) F.oo.mo F.oo.bits hb h1 h2 (by omega)
  exact ⟨q, ⟨n, row, poly, q, rfl, F.cyc, a, rfl⟩, b, c, d⟩
theorem cmulx {i j : Int} {m l : Nat} (h1 : Builtin.Int.intBits i ≤ m) (h2 : Builtin.Int.intBits j ≤ l) (h : m + l ≤ 134217728) : CMulX i j := mulOk_of (mulOk_le h1 h2 h)
theorem bits0 : Builtin.Int.intBits 0 = 0 := by decide
theorem bits1 : Builtin.Int.intBits 1 = 1 := by decide
theorem Fl.kn (F : Fl n poly k) : 2 ≤ k ∧ k ≤ 6 ∧ k < n ∧ n ≤ 60 := by
  have := F.oo.cnt
  have := F.oo.sz
  have := F.oo.ord
  refine ⟨by omega, by omega, ?_, by omega⟩
  exact F.lt
/-- a power of z by the law -/
theorem Fl.pow (F : Fl n poly k) {m : Nat} (hm : m < n) : ∃ p, R_law_turn_power [.int n, .int (m : Int)] (it p) ∧ p.length = k ∧ (∀ i, vec p i = zp poly k m i) ∧ bb 3001 p := by
  have kn := F.kn
  obtain ⟨p, a, b, c, d⟩ := F.cut (m := 1) (row := List.replicate m 0 ++ [1]) (fun e he => by
    rcases List.mem_append.mp he with he | he
    · rw [(List.mem_replicate.mp he).2, bits0]; omega
    · rw [List.mem_singleton.mp he, bits1]; omega) (by rw [List.length_append, List.length_replicate]; omega) (by rw [List.length_append, List.length_replicate]; simp; omega) (by omega)
  refine ⟨p, ⟨n, m, rfl, by omega, by omega, ?_⟩, b, fun i => by rw [c, Er_pow], d⟩
  have e : ((m : Int).fmod n).toNat = m := by
    rw [Int.fmod_eq_emod_of_nonneg _ (by omega), Int.emod_eq_of_lt (by omega) (by omega)]
    omega
  rw [e]
  exact a
/-- a row times a power of z by the law -/
theorem Fl.times (F : Fl n poly k) {m c : Nat} {x p : List Int} (hx : x.length = k) (hxb : bb c x) (hc : c ≤ 1000000) (hp : p.length = k) (hpz : ∀ i, vec p i = zp poly k m i) (hpb : bb 3001 p) :
    ∃ q, R_law_turn_times [.int n, it x, it p] (it q) ∧ q.length = k ∧ (∀ i, vec q i = mzi poly k m (vec x) i) ∧ bb (c + 10000) q := by
  have kn := F.kn
  have s1 : k * k ≤ 36 := Nat.mul_le_mul kn.2.1 kn.2.1
  obtain ⟨q, a, b, d, e⟩ := F.cut (m := c + 3001 + 36) (row := ltM x p) ((ltM_bb hxb hpb).mono (by rw [hx, hp]; omega)) (by rw [ltM_len, hx, hp]; omega) (by rw [ltM_len, hx, hp]; omega) (by omega)
  refine ⟨q, ⟨n, false, x, false, p, rfl, by rw [hx, hp]; omega, fun i hi j hj => cmulx (hxb i hi) (hpb j hj) (by omega), a⟩, b, fun i => ?_, e.mono (by omega)⟩
  rw [d, ltM_Er, Cv_unit (m := m) (fun i => by rw [Er_short p (by omega), hpz]), mzi_ext (Er_short x (by omega))]
end
end Q
end

/-! text MM -/
section
set_option Elab.async false
set_option linter.all false
set_option maxRecDepth 100000
/-! the two judgements agree -/
namespace Q
open PySem PySem.Spec PyProof.Rows L2
def nb (e : B) : Prop := known e ∧ ∀ i, e = .int i → i.natAbs ≤ 10000000000
def nbRow : B → Prop
  | .tup es => ∀ e ∈ es, nb e
  | x => known x
def nbAll : B → Prop
  | .tup vs => ∀ v ∈ vs, nbRow v
  | x => known x
def smR (vs : List (List Int)) : Prop := ∀ row ∈ vs, ∀ e ∈ row, e.natAbs ≤ 10000000000
theorem nbRow_known {x : B} (h : nbRow x) : knownRow x := by
  cases x <;> first | exact h | exact fun e he => (h e he).1
theorem nbAll_known {x : B} (h : nbAll x) : knownAll x := by
  cases x <;> first | exact h | exact fun e he => nbRow_known (h e he)
theorem nb_int {e : B} (h : nb e) : isInteger e = isInt e := by
  cases e <;> try rfl
  rename_i i
  have := h.2 i rfl
  show (decide (-(10 ^ 60) < i) && decide (i < 10 ^ 60)) = true
  rw [decide_eq_true (by omega), decide_eq_true (by omega)]
  rfl
theorem all_same {p q : B → Bool} : ∀ {l : List B}, (∀ x ∈ l, p x = q x) → l.all p = l.all q
  | [], _ => rfl
  | x :: r, h => by rw [List.all_cons, List.all_cons, h x (List.mem_cons_self ..), all_same fun y hy => h y (List.mem_cons_of_mem _ hy)]
theorem nbRow_told {k : Nat} {x : B} (h : nbRow x) : toldRow k x = ltoldRow k x := by
  cases x <;> try rfl
  show (_ && _) = (_ && _)
  rw [all_same fun e he => nb_int (h e he)]
theorem nb_told {k : Nat} {x : B} (h : nbAll x) : toldM k x = ltoldM k x := by
  cases x <;> try rfl
  show (_ && _) = (_ && _)
  rw [all_same fun e he => nbRow_told (h e he)]
theorem isInt_of {e : B} (h : isInt e = true) : ∃ i, e = .int i := by
  cases e <;> first | exact ⟨_, rfl⟩ | cases h
theorem ltoldRow_of {k : Nat} {x : B} (h : ltoldRow k x = true) : ∃ es, x = .tup es ∧ (decide (es.length = k) && es.all isInt) = true := by
  cases x <;> first | exact ⟨_, rfl, h⟩ | cases h
theorem ltoldM_of {k : Nat} {x : B} (h : ltoldM k x = true) : ∃ es, x = .tup es ∧ (decide (es.length = k) && es.all (ltoldRow k)) = true := by
  cases x <;> first | exact ⟨_, rfl, h⟩ | cases h
theorem ints_of {es : List B} (h1 : ∀ e ∈ es, nb e) (h2 : es.all isInt = true) : ∃ r : List Int, es = r.map B.int ∧ ∀ e ∈ r, e.natAbs ≤ 10000000000 := by
  induction es with
  | nil => exact ⟨[], rfl, fun e he => by cases he⟩
  | cons x r ih =>
    rw [List.all_cons, Bool.and_eq_true] at h2
    obtain ⟨l, rfl, hl⟩ := ih (fun e he => h1 e (List.mem_cons_of_mem _ he)) h2.2
    have hx := h1 x (List.mem_cons_self ..)
    obtain ⟨i, rfl⟩ := isInt_of h2.1
    refine ⟨i :: l, rfl, fun e he => ?_⟩
    rcases List.mem_cons.mp he with rfl | he
    · exact hx.2 _ rfl
    · exact hl e he
theorem rows_of {k : Nat} {vs : List B} (h1 : ∀ e ∈ vs, nbRow e) (h2 : vs.all (ltoldRow k) = true) : ∃ q : List (List Int), vs = q.map it ∧ (∀ r ∈ q, r.length = k) ∧ smR q := by
  induction vs with
  | nil => exact ⟨[], rfl, (fun e he => by cases he), fun e he => by cases he⟩
  | cons x r ih =>
    rw [List.all_cons, Bool.and_eq_true] at h2
    obtain ⟨l, rfl, hl, hs⟩ := ih (fun e he => h1 e (List.mem_cons_of_mem _ he)) h2.2
    have hx := h1 x (List.mem_cons_self ..)
    obtain ⟨es, rfl, h3⟩ := ltoldRow_of h2.1
    rw [Bool.and_eq_true] at h3
    obtain ⟨row, rfl, hr⟩ := ints_of hx h3.2
    have l3 := of_decide_eq_true h3.1
    rw [List.length_map] at l3
    refine ⟨row :: l, rfl, (fun e he => ?_), fun e he => ?_⟩
    · rcases List.mem_cons.mp he with rfl | he
      · exact l3
      · exact hl e he
    · rcases List.mem_cons.mp he with rfl | he
      · exact hr
      · exact hs e he
theorem told_of {k : Nat} {q : List (List Int)} (h1 : q.length = k) (h2 : ∀ r ∈ q, r.length = k) (h3 : smR q) : ltoldM k (rB q) = true := by
  show (decide ((q.map it).length = k) && (q.map it).all (ltoldRow k)) = true
  rw [List.length_map, decide_eq_true h1, Bool.true_and, List.all_eq_true]
  intro x hx
  obtain ⟨r, hr, rfl⟩ := List.mem_map.mp hx
  show (decide ((r.map B.int).length = k) && (r.map B.int).all isInt) = true
  rw [List.length_map, decide_eq_true (h2 r hr), Bool.true_and, List.all_eq_true]
  intro y hy
  obtain ⟨i, _, rfl⟩ := List.mem_map.mp hy
  rfl
theorem it_inj {a b : List Int} (h : it a = it b) : a = b := by
  have h2 := B.tup.inj h
  exact (List.map_inj_right fun x y e => B.int.inj e).mp h2
theorem rB_inj {a b : List (List Int)} (h : rB a = rB b) : a = b := by
  have h2 := B.tup.inj h
  exact (List.map_inj_right fun x y e => it_inj e).mp h2
theorem vec_ext {a b : List Int} (h : a.length = b.length) (e : ∀ i, vec a i = vec b i) : a = b := by
  refine List.ext_getElem h fun i h1 h2 => ?_
  have := e i
  unfold vec at this
  rw [List.getD_eq_getElem?_getD, List.getD_eq_getElem?_getD, List.getElem?_eq_getElem h1, List.getElem?_eq_getElem h2] at this
  exact this
theorem bits_lt {e : Int} {m : Nat} (h : e.natAbs < 2 ^ m) : Builtin.Int.intBits e ≤ m := by
  unfold Builtin.Int.intBits
  split
  · omega
  · rename_i h0
    have h1 : e.natAbs ≠ 0 := fun z => h0 (by have : e = 0 := by omega
                                              rw [this]; rfl)
    have := (Nat.log2_lt h1).mpr h
    omega
theorem smR.bb {vs : List (List Int)} (h : smR vs) : ∀ r ∈ vs, bb 40 r := fun r hr e he => bits_lt (by have := h r hr e he; omega)
section
variable {poly : List Int} {k n : Nat}
theorem Fl.frame (F : Fl n poly k) : R_units_list [.int n] (il (unitsM n)) ∧ R_frame_init [.int n] [.int n, lB (rowsOf n), .int (k : Int), il (unitsM n)] := by
  obtain ⟨_, a, b⟩ := frQ_ok F.oo.fr
  rw [F.pl] at b
  exact ⟨a, b⟩
theorem Fl.req (F : Fl n poly k) : R_require_ideal_order [.int n] .non := ⟨n, unitsM n, rfl, by have := F.kn; omega, by have := F.kn; omega, F.frame.1, F.oo.units, rfl⟩
theorem Fl.zt (F : Fl n poly k) {c : Nat} {x : List Int} (hx : x.length = k) (hxb : bb c x) (hc : c ≤ 1000000) : ∃ q, R_z_times [frB n (rowsOf n) k (unitsM n), it x] (it q) ∧ q.length = k ∧ ∀ i, vec q i = mz poly k (vec x) i := by
  have kn := F.kn
  have s1 : k * k ≤ 36 := Nat.mul_le_mul kn.2.1 kn.2.1
  obtain ⟨c1, c2, c3⟩ := F.oo.cnt
  have hz := frOk_zp (by omega) F.oo.rows
  have sh : ∀ r ∈ rowsOf n, bb 8 r := fun r hr => bb_dec (List.all_eq_true.mp F.oo.sh r hr)
  have row1 : (rowsOf n).getD 1 [] ∈ rowsOf n := getD_in (by omega)
  obtain ⟨z1, z2⟩ := hz 1 (by omega)
  have pl := prM_len k x ((rowsOf n).getD 1 [])
  have pb : bb (c + 8 + 36) (prM k x ((rowsOf n).getD 1 [])) := (prM_bb hxb (sh _ row1)).mono (by rw [hx, z1]; omega)
  obtain ⟨f1, f2⟩ := fo_Er (row := prM k x ((rowsOf n).getD 1 [])) (by omega) hz (by omega) (by omega)
  refine ⟨foM (rowsOf n) (prM k x ((rowsOf n).getD 1 [])) k, ⟨n, rowsOf n, k, unitsM n, it x, it ((rowsOf n).getD 1 []), rfl, ⟨n, rowsOf n, k, unitsM n, 1, (rowsOf n).getD 1 [], rfl, by omega, ?_, rfl⟩,
    n, rowsOf n, k, unitsM n, false, x, false, (rowsOf n).getD 1 [], rfl, by omega, by omega, by omega, fun e he g hg => cmulx (hxb e he) (sh _ row1 g hg) (by omega), n, rowsOf n, k, unitsM n, _, rfl, by omega, by omega, by omega, fun i hi o ho => ?_, rfl⟩, f1, fun i => ?_⟩
  · have e : (1 : Int).fmod n = ((1 : Nat) : Int) := by
      rw [Int.fmod_eq_emod_of_nonneg _ (by omega), Int.emod_eq_of_lt (by omega) (by omega)]
      rfl
    rw [e]
    exact atI_D (by omega)
  · exact cmulx (pb.at (k + i)) (sh _ (getD_in (show k + i < (rowsOf n).length by omega)) o ho) (by omega)
  · rw [f2, prM_Er (by omega) (by omega), Cv_unit (m := 1) (fun i => by rw [Er_short _ (by omega), z2])]
    exact mz_ext (Er_short x (by omega)) i
/-- THE TWO JUDGEMENTS -/
theorem Fl.judge (F : Fl n poly k) {v : B} (hv : nbAll v) : ∃ r : Bool, R_law_are_ideal_rows [.int n, v] (.bl r) ∧ R_are_ideal_rows [frB n (rowsOf n) k (unitsM n), v] (.bl r) ∧
    (r = true → ∃ vs, v = rB vs ∧ HN k vs ∧ smR vs) ∧ (∀ vs, v = rB vs → smR vs → HN k vs → Zc poly k vs → r = true) := by
  have kn := F.kn
  have pl := F.pl
  have ek : poly.length - 1 = k := by omega
  by_cases h : ∃ vs, v = rB vs ∧ vs.length = k ∧ (∀ r ∈ vs, r.length = k) ∧ smR vs
  · obtain ⟨vs, rfl, l1, l2, l3⟩ := h
    have t2 : ltoldM k (rB vs) = true := told_of l1 l2 l3
    have t1 : toldM k (rB vs) = true := by rw [nb_told hv]; exact t2
    have ll : ∀ row ∈ vs, row.length = vs.length := fun r hr => by rw [l1]; exact l2 r hr
    cases ha : alM vs with
    | false =>
      refine ⟨false, ⟨n, poly, _, rfl, F.cyc, by omega, by omega, nbAll_known hv, .inr ⟨vs, rfl, by rw [ek]; exact t2, ll, .inl ⟨ha, rfl⟩⟩⟩, ⟨n, rowsOf n, k, unitsM n, _, rfl, by omega, nbAll_known hv, .inr ⟨vs, rfl, t1, ll, .inl ⟨ha, rfl⟩⟩⟩, (fun z => by cases z), fun ws e hs hn _ => ?_⟩
      have := rB_inj e
      subst this
      rw [(al_iff l1 l2).mpr hn] at ha
      cases ha
    | true =>
      have hn := (al_iff l1 l2).mp ha
      obtain ⟨p, p1, p2, p3, p4⟩ := F.pow (m := 1) (by omega)
      have bbs := l3.bb
      have key : ∀ row ∈ vs, ∃ z, R_law_turn_times [.int n, it row, it p] (it z) ∧ R_z_times [frB n (rowsOf n) k (unitsM n), it row] (it z) ∧ z.length = k ∧ (∀ i, vec z i = mz poly k (vec row) i) ∧ bb 20000 z := fun row hr => by
        obtain ⟨z, a1, a2, a3, a4⟩ := F.times (m := 1) (l2 row hr) (bbs row hr) (by omega) p2 p3 p4
        obtain ⟨y, b1, b2, b3⟩ := F.zt (l2 row hr) (bbs row hr) (by omega)
        have e : y = z := vec_ext (by omega) fun i => by rw [b3, a3]; rfl
        subst e
        exact ⟨y, a1, b1, a2, b3, a4.mono (by omega)⟩
      obtain ⟨z, hz⟩ : ∃ z : List Int → List Int, ∀ row ∈ vs, R_law_turn_times [.int n, it row, it p] (it (z row)) ∧ R_z_times [frB n (rowsOf n) k (unitsM n), it row] (it (z row)) ∧ (z row).length = k ∧ (∀ i, vec (z row) i = mz poly k (vec row) i) ∧ bb 20000 (z row) := by
        refine ⟨fun row => if h : row ∈ vs then Classical.choose (key row h) else [], fun row h => ?_⟩
        have := Classical.choose_spec (key row h)
        simp only [dif_pos h]
        exact this
      have hb : ∀ row ∈ vs, liM vs.zipIdx (z row) = some ((liM vs.zipIdx (z row)).getD false) ∧ isM vs.zipIdx (z row) = some ((liM vs.zipIdx (z row)).getD false) := fun row hr => by
        obtain ⟨_, _, h3, _, h5⟩ := hz row hr
        obtain ⟨b, b1, b2⟩ := hn.both (n := 40) (m := 20000) (by omega) (by omega) bbs h3 h5 (by omega)
        rw [b1]
        exact ⟨rfl, b2⟩
      refine ⟨vs.all fun row => (liM vs.zipIdx (z row)).getD false, ⟨n, poly, _, rfl, F.cyc, by omega, by omega, nbAll_known hv, .inr ⟨vs, rfl, by rw [ek]; exact t2, ll, .inr ⟨ha, it p, z, fun l => (liM vs.zipIdx l).getD false, p1, fun row hr => ⟨(hz row hr).1, vs, z row, _, rfl, (hb row hr).1, rfl⟩, ?_⟩⟩⟩,
        ⟨n, rowsOf n, k, unitsM n, _, rfl, by omega, nbAll_known hv, .inr ⟨vs, rfl, t1, ll, .inr ⟨ha, z, fun row => (liM vs.zipIdx (z row)).getD false, fun row hr => ⟨(hz row hr).2.1, vs, z row, _, rfl, (hb row hr).2, rfl⟩, rfl⟩⟩⟩, fun _ => ⟨vs, rfl, hn, l3⟩, fun ws e hs hn' zc => ?_⟩
      · rw [List.all_map]
        rfl
      · have := rB_inj e
        subst this
        rw [List.all_eq_true]
        intro row hr
        obtain ⟨_, _, h3, h4, h5⟩ := hz row hr
        have hi : In vs (vec (z row)) := (zc _ (In.mem hr)).ext h4
        obtain ⟨q1, _⟩ := hn.inside (n := 40) (m := 20000) (by omega) (by omega) bbs h3 h5 (by omega) hi
        rw [q1]
        rfl
  · have t2 : ltoldM k v = false := by
      cases ht : ltoldM k v with
      | false => rfl
      | true =>
        obtain ⟨vs, rfl, h3⟩ := ltoldM_of ht
        rw [Bool.and_eq_true] at h3
        obtain ⟨q, rfl, a, b⟩ := rows_of hv h3.2
        have := of_decide_eq_true h3.1
        rw [List.length_map] at this
        exact absurd ⟨q, rfl, this, a, b⟩ h
    have t1 : toldM k v = false := by rw [nb_told hv]; exact t2
    refine ⟨false, ⟨n, poly, _, rfl, F.cyc, by omega, by omega, nbAll_known hv, .inl ⟨by rw [ek]; exact t2, rfl⟩⟩, ⟨n, rowsOf n, k, unitsM n, _, rfl, by omega, nbAll_known hv, .inl ⟨t1, rfl⟩⟩, (fun z => by cases z), fun ws e hs hn _ => ?_⟩
    exact absurd ⟨ws, e, hn.len, hn.lens, hs⟩ h
end
end Q
end

/-! text MN -/
section
set_option Elab.async false
set_option linter.all false
set_option maxRecDepth 100000
/-! the size of an ideal, its text, what may be compared -/
namespace Q
open PySem PySem.Spec PyProof.Rows L2 PySem.Builtin.Str
theorem sz_go {M : Nat} : ∀ (l : List (List Int)) (a : Nat) (s : Int), (∀ j, j < l.length → a + j < (l.getD j []).length ∧ (vec (l.getD j []) (a + j)).natAbs ≤ M) → 1 ≤ M → M < 2 ^ 200 → s.natAbs * M ^ l.length < 2 ^ 200 →
    (l.zipIdx a).foldlM szS s = some (s * dpr a l) ∧ (s * dpr a l).natAbs ≤ s.natAbs * M ^ l.length
  | [], a, s, _, _, _, _ => ⟨by show some s = some (s * 1); rw [Int.mul_one], by show (s * 1).natAbs ≤ s.natAbs * 1; rw [Int.mul_one]; omega⟩
  | f :: r, a, s, h, h1, h2, hb => by
    obtain ⟨a1, a2⟩ := h 0 (by simp)
    have a1 : a < f.length := a1
    have a2 : (f.getD a 0).natAbs ≤ M := a2
    have p1 : 1 ≤ M ^ r.length := Nat.one_le_pow _ _ h1
    rw [List.length_cons, Nat.pow_succ] at hb
    have bs : s.natAbs ≤ s.natAbs * (M ^ r.length * M) := Nat.le_mul_of_pos_right _ (Nat.mul_pos p1 h1)
    have e : szS s (f, a) = some (s * f.getD a 0) := if_pos ⟨a1, mulOk_le (m := 200) (n := 200) (bits_lt (e := s) (by omega)) (bits_lt (e := f.getD a 0) (by omega)) (by omega)⟩
    have nb : (s * f.getD a 0).natAbs * M ^ r.length ≤ s.natAbs * (M ^ r.length * M) := by
      rw [Int.natAbs_mul, Nat.mul_comm (M ^ r.length) M, ← Nat.mul_assoc]
      exact Nat.mul_le_mul_right _ (Nat.mul_le_mul_left _ a2)
    obtain ⟨i1, i2⟩ := sz_go r (a + 1) (s * f.getD a 0) (fun j hj => by
      have := h (j + 1) (by rw [List.length_cons]; omega)
      rw [show a + (j + 1) = a + 1 + j by omega] at this
      exact this) h1 h2 (by omega)
    have em : s * f.getD a 0 * dpr (a + 1) r = s * dpr a (f :: r) := by
      show _ = s * (f.getD a 0 * dpr (a + 1) r)
      rw [Int.mul_assoc]
    rw [em] at i1 i2
    refine ⟨?_, ?_⟩
    · rw [List.zipIdx_cons, List.foldlM_cons, e]
      exact i1
    · rw [List.length_cons, Nat.pow_succ]
      omega
theorem HN.sz {k M : Nat} {q : List (List Int)} (h : HN k q) (hk : k ≤ 6) (h1 : 1 ≤ M) (hM : M ≤ 10000000000) (hb : ∀ r ∈ q, ∀ e ∈ r, e.natAbs ≤ M) : szM q = some (dpr 0 q) ∧ (dpr 0 q).natAbs ≤ M ^ k := by
  have p6 : M ^ k ≤ 10000000000 ^ 6 := Nat.le_trans (Nat.pow_le_pow_left hM k) (Nat.pow_le_pow_right (by omega) hk)
  obtain ⟨a, b⟩ := sz_go (M := M) q 0 1 (fun j hj => by
    rw [h.len] at hj
    obtain ⟨r1, _, _⟩ := h.row j hj
    have hm : q.getD j [] ∈ q := getD_in (by rw [h.len]; exact hj)
    refine ⟨by omega, ?_⟩
    rw [Nat.zero_add]
    exact hb _ hm _ (getD_in (by omega))) h1 (by omega) (by
      rw [h.len]
      show 1 * M ^ k < _
      have : (10000000000 : Nat) ^ 6 < 2 ^ 200 := by decide
      omega)
  rw [Int.one_mul] at a b
  have b2 : (dpr 0 q).natAbs ≤ 1 * M ^ k := by rw [h.len] at b; exact b
  exact ⟨a, by omega⟩
/-! ### texts -/
theorem str_ofLen (s : String) : (Str.ofString s).length = s.length := by
  rw [Str.ofString_eq_toList]
  show ((s.toList.map Char.toNat).toArray).size = _
  rw [List.size_toArray, List.length_map, String.length_toList]
theorem intT_len {e : Int} (h : e.natAbs < 10 ^ 60) : (intT e).length ≤ 61 := by
  unfold intT
  rw [str_ofLen]
  cases e with
  | ofNat m =>
    have : (Nat.repr m).length ≤ 60 := (Nat.length_repr_le_iff (by omega)).mpr h
    exact Nat.le_trans this (by omega)
  | negSucc m =>
    have : (Nat.repr (m + 1)).length ≤ 60 := (Nat.length_repr_le_iff (by omega)).mpr h
    show ("-" ++ Nat.repr (m + 1)).length ≤ 61
    rw [String.length_append]
    have e : ("-" : String).length = 1 := by decide
    omega
theorem sum_le {α : Type} {f : α → Nat} {c : Nat} : ∀ {l : List α}, (∀ x ∈ l, f x ≤ c) → (l.map f).sum ≤ l.length * c
  | [], _ => by simp
  | x :: r, h => by
    rw [List.map_cons, List.sum_cons, List.length_cons, Nat.add_mul]
    have := h x (List.mem_cons_self ..)
    have := sum_le fun y hy => h y (List.mem_cons_of_mem x hy)
    omega
theorem len1 : ((" " : Str)).length = 1 ∧ (("/" : Str)).length = 1 ∧ ((" of order " : Str)).length = 10 := by
  refine ⟨?_, ?_, ?_⟩ <;> (rw [str_ofLen]; decide)
theorem row_len {k : Nat} {r : List Int} (hl : r.length ≤ k) (h : ∀ e ∈ r, e.natAbs < 10 ^ 60) : ((r.map intT).map (·.length)).sum + (r.map intT).length * (" " : Str).length ≤ k * 62 ∧ (rowT r).length ≤ k * 62 := by
  have s1 : ((r.map intT).map (·.length)).sum ≤ (r.map intT).length * 61 := sum_le fun x hx => by
    obtain ⟨e, he, rfl⟩ := List.mem_map.mp hx
    exact intT_len (h e he)
  rw [List.length_map] at s1 ⊢
  have l := len1
  refine ⟨by rw [l.1]; omega, ?_⟩
  show (glued (" " : Str) (r.map intT)).length ≤ _
  rw [size_glued, l.1, List.length_map]
  omega
theorem all_len {k : Nat} {rows : List (List Int)} (hl : rows.length ≤ k) (h2 : ∀ r ∈ rows, r.length ≤ k) (h : ∀ r ∈ rows, ∀ e ∈ r, e.natAbs < 10 ^ 60) : ((rows.map rowT).map (·.length)).sum + (rows.map rowT).length * ("/" : Str).length ≤ k * (k * 62 + 1) ∧ (Txt.join "/" (rows.map rowT)).length ≤ k * (k * 62 + 1) := by
  have s1 : ((rows.map rowT).map (·.length)).sum ≤ (rows.map rowT).length * (k * 62) := sum_le fun x hx => by
    obtain ⟨r, hr, rfl⟩ := List.mem_map.mp hx
    exact (row_len (h2 r hr) (h r hr)).2
  rw [List.length_map] at s1 ⊢
  have l := len1
  have s2 : rows.length * (k * 62) + rows.length ≤ k * (k * 62 + 1) := by
    rw [← Nat.mul_succ]
    exact Nat.mul_le_mul hl (by omega)
  refine ⟨by rw [l.2.1]; omega, ?_⟩
  show (glued ("/" : Str) (rows.map rowT)).length ≤ _
  rw [size_glued, l.2.1, List.length_map]
  omega
theorem log_lt {e : Int} (h : e.natAbs < 2 ^ 1920) : e.natAbs.log2 < 1920 := by
  by_cases h0 : e.natAbs = 0
  · rw [h0]
    decide
  · exact (Nat.log2_lt h0).mpr h
theorem tx_ok {n : Int} {k : Nat} {rows : List (List Int)} (hk : k ≤ 60) (hl : rows.length ≤ k) (h2 : ∀ r ∈ rows, r.length ≤ k) (h : ∀ r ∈ rows, ∀ e ∈ r, e.natAbs < 10 ^ 60) (hn : n.natAbs < 10 ^ 60) : TxOk rows n ∧
    (Txt.join "/" (rows.map rowT) ++ " of order ").length ≤ sizeLine ∧ (Txt.join "/" (rows.map rowT) ++ " of order " ++ intT n).length ≤ sizeLine ∧ (idT rows n).length ≤ sizeLine := by
  obtain ⟨a, b⟩ := all_len hl h2 h
  have l := len1
  have ni := intT_len hn
  have em : Str.empty.length = 0 := rfl
  have kk : k * (k * 62 + 1) ≤ 60 * (60 * 62 + 1) := Nat.mul_le_mul hk (by omega)
  have big : (10 : Nat) ^ 60 < 2 ^ 1920 := by decide +kernel
  refine ⟨⟨fun r hr e he => log_lt (by have := h r hr e he; omega), log_lt (by omega), fun r hr => ?_, ⟨by omega, fun r hr => by have := h2 r hr; omega⟩, by omega, ?_, ?_⟩, ?_, ?_, ?_⟩
  · have := (row_len (h2 r hr) (h r hr)).1
    omega
  · rw [Str_len, Str_len, sizeLine_eq]
    omega
  · rw [Str_len, Str_len, sizeLine_eq]
    omega
  · rw [Str_len, sizeLine_eq]
    omega
  · rw [Str_len, Str_len, sizeLine_eq]
    omega
  · rw [idT_eq, Str_len, Str_len, sizeLine_eq]
    omega
/-! ### what may be compared -/
def okS (x : Str) : Prop := ∀ c ∈ x.cps.toList, c < 1114112
theorem okS_of (s : String) : okS (Str.ofString s) := fun c hc => by
  rw [Str.ofString_eq_toList] at hc
  obtain ⟨ch, _, rfl⟩ := List.mem_map.mp (by simpa using hc)
  have := ch.valid
  rcases this with h | ⟨_, h⟩
  · show ch.val.toNat < _
    have : ch.val.toNat < 55296 := h
    omega
  · exact h
theorem okS_app {a b : Str} (ha : okS a) (hb : okS b) : okS (a ++ b) := fun c hc => by
  have hc : c ∈ (a.cps ++ b.cps).toList := hc
  rw [Array.toList_append, List.mem_append] at hc
  exact hc.elim (ha c) (hb c)
theorem okS_fold {sep : Str} (hs : okS sep) : ∀ (l : List Str) (acc : Array Nat), (∀ x ∈ l, okS x) → (∀ c ∈ acc.toList, c < 1114112) → ∀ c ∈ (l.foldl (fun acc p => acc ++ sep.cps ++ p.cps) acc).toList, c < 1114112
  | [], _, _, h => h
  | x :: r, acc, hl, h => okS_fold hs r _ (fun y hy => hl y (List.mem_cons_of_mem _ hy)) fun c hc => by
    rw [Array.toList_append, List.mem_append, Array.toList_append, List.mem_append] at hc
    rcases hc with (hc | hc) | hc
    · exact h c hc
    · exact hs c hc
    · exact hl x (List.mem_cons_self ..) c hc
theorem okS_join {sep : Str} (hs : okS sep) {l : List Str} (h : ∀ x ∈ l, okS x) : okS (Txt.join sep l) := by
  refine okS_fold hs (l.drop 1) _ (fun x hx => h x (List.mem_of_mem_drop hx)) ?_
  cases l with
  | nil => exact fun c hc => by cases hc
  | cons x r => exact h x (List.mem_cons_self ..)
theorem okS_idT (rows : List (List Int)) (n : Int) : okS (idT rows n) := by
  rw [idT_eq]
  refine okS_app (okS_app (okS_join (okS_of _) fun x hx => ?_) (okS_of _)) (okS_of _)
  obtain ⟨r, _, rfl⟩ := List.mem_map.mp hx
  refine okS_join (okS_of _) fun y hy => ?_
  obtain ⟨i, _, rfl⟩ := List.mem_map.mp hy
  exact okS_of _
theorem cmpn_str {x : Str} (h : okS x) : CmpN 1 (.str x) := ⟨by rw [isPy], by
  rw [py, PyData.canLay0]
  unfold PyData.strOk
  rw [Array.all_eq_true_iff_forall_mem]
  intro c hc
  exact decide_eq_true (h c (by simpa using hc)), by rw [py]; simp [PyData.depth]⟩
theorem cmpn_rB (rows : List (List Int)) : CmpN 3 (rB rows) := cmpn_tup fun x hx => by
  obtain ⟨r, _, rfl⟩ := List.mem_map.mp hx
  exact cmpn_it r
theorem cmp_rB (rows : List (List Int)) : Cmp (rB rows) := (cmpn_rB rows).cmp (by omega)
theorem cmp_lR (rows : List (List Int)) : Cmp (.lst (rows.map it)) := (cmpn_lst (n := 2) fun x hx => by
  obtain ⟨r, _, rfl⟩ := List.mem_map.mp hx
  exact cmpn_it r).cmp (by omega)
theorem cmp_four (a b c : Int) {x : Str} (h : okS x) : Cmp (.lst [.int a, .int b, .str x, .int c]) := (cmpn_lst (n := 1) fun y hy => by
  simp only [List.mem_cons, List.not_mem_nil, or_false] at hy
  rcases hy with rfl | rfl | rfl | rfl
  · exact cmpn_int _
  · exact cmpn_int _
  · exact cmpn_str h
  · exact cmpn_int _).cmp (by omega)
end Q
end

/-! text MO -/
section
set_option Elab.async false
set_option linter.all false
set_option maxRecDepth 100000
/-! what is drawn: turn numbers, ideals -/
namespace Q
open PySem PySem.Spec PyProof.Rows L2
theorem td_ok {most : Int} (h0 : 0 ≤ most) (d : Dice) : ∀ (t N : Nat), d.okN (2 * t + N) → (tdM d most t).2.length = t ∧ (∀ e ∈ (tdM d most t).2, -most ≤ e ∧ e ≤ most) ∧ (tdM d most t).1.okN N
  | 0, N, h => ⟨rfl, (fun e he => by cases he), h.less (by omega)⟩
  | t + 1, N, h => by
    obtain ⟨a, b, c⟩ := td_ok h0 d t (N + 2) (h.less (by omega))
    have e : tdM d most (t + 1) = tdS most (tdM d most t) t := by
      unfold tdM
      rw [List.range_succ, List.foldl_append]
      rfl
    rw [e]
    obtain ⟨s, hs⟩ : ∃ s, s = tdM d most t := ⟨_, rfl⟩
    rw [← hs] at a b c ⊢
    unfold tdS
    have c1 := c.roll (t := 2) (by omega)
    split
    · have r := roll_range (rollD s.1 2) (t := 2 * most + 1) (by omega)
      refine ⟨by rw [List.length_append, a]; rfl, fun e he => ?_, c1.roll (by omega)⟩
      rcases List.mem_append.mp he with he | he
      · exact b e he
      · rw [List.mem_singleton.mp he]
        omega
    · refine ⟨by rw [List.length_append, a]; rfl, fun e he => ?_, c1.less (by omega)⟩
      rcases List.mem_append.mp he with he | he
      · exact b e he
      · rw [List.mem_singleton.mp he]
        omega
theorem max_zero : ∀ {l : List Int}, (∀ e ∈ l, e = 0) → l.foldl max 0 = 0 ∧ l.foldl min 0 = 0
  | [], _ => ⟨rfl, rfl⟩
  | x :: r, h => by
    rw [List.foldl_cons, List.foldl_cons, h x (List.mem_cons_self ..)]
    exact max_zero fun e he => h e (List.mem_cons_of_mem _ he)
theorem nz_ex {l : List Int} (h : nzRow l = true) : ∃ e ∈ l, e ≠ 0 := by
  refine Classical.byContradiction fun hc => ?_
  have hz : ∀ e ∈ l, e = 0 := fun e he => Classical.byContradiction fun h0 => hc ⟨e, he, h0⟩
  cases l with
  | nil => cases h
  | cons x r =>
    have hx := hz x (List.mem_cons_self ..)
    subst hx
    obtain ⟨a, b⟩ := max_zero fun e he => hz e (List.mem_cons_of_mem _ he)
    have : nzRow (0 :: r) = false := by
      show (!decide (r.foldl max 0 = 0) || !decide (r.foldl min 0 = 0)) = false
      rw [a, b]
      rfl
    rw [this] at h
    cases h
theorem vec_mem {l : List Int} {e : Int} (h : e ∈ l) : ∃ i, i < l.length ∧ vec l i = e := by
  obtain ⟨i, hi, he⟩ := List.getElem_of_mem h
  refine ⟨i, hi, ?_⟩
  unfold vec
  rw [List.getD_eq_getElem?_getD, List.getElem?_eq_getElem hi, he]
  rfl
theorem sv_bound {c : Nat → Int} {A i : Nat} : ∀ (x : List Int) (s : Nat), (∀ e ∈ x, e.natAbs ≤ A) → (sv (x.zipIdx s) (fun q _ => q.1 * c q.2) i).natAbs ≤ A * ((List.range x.length).map fun j => (c (s + j)).natAbs).sum
  | [], s, _ => by rw [List.zipIdx_nil, sv_nil]; simp
  | x :: r, s, h => by
    rw [List.zipIdx_cons, sv_cons, List.length_cons, List.range_succ_eq_map, List.map_cons, List.sum_cons, List.map_map, Nat.mul_add]
    have ih := sv_bound (c := c) (A := A) (i := i) r (s + 1) fun e he => h e (List.mem_cons_of_mem _ he)
    have e : (List.range r.length).map ((fun j => (c (s + j)).natAbs) ∘ Nat.succ) = (List.range r.length).map fun j => (c (s + 1 + j)).natAbs := List.map_congr_left fun j _ => by
      show (c (s + (j + 1))).natAbs = _
      rw [show s + (j + 1) = s + 1 + j by omega]
    rw [e]
    have hx : (x * c s).natAbs ≤ A * (c (s + 0)).natAbs := by
      rw [Int.natAbs_mul]
      exact Nat.mul_le_mul_right _ (h x (List.mem_cons_self ..))
    have t := Int.natAbs_add_le (x * c s) (sv (r.zipIdx (s + 1)) (fun q _ => q.1 * c q.2) i)
    show (x * c s + _).natAbs ≤ _
    omega
section
variable {poly : List Int} {k n : Nat}
/-- a row that may be a member -/
structure MemOk (poly : List Int) (k : Nat) (x : List Int) : Prop where
  len : x.length = k
  bits : bb 40 x
  sm : ∀ j, j < k → ∀ i, i < k → (mzi poly k j (vec x) i).natAbs ≤ 16
theorem Fl.mem (F : Fl n poly k) {x : List Int} (hx : x.length = k) (h : ∀ e ∈ x, -4 ≤ e ∧ e ≤ 4) : MemOk poly k x := by
  have kn := F.kn
  have hz := frOk_zp (by omega) F.oo.rows
  obtain ⟨c1, c2, c3⟩ := F.oo.cnt
  refine ⟨hx, fun e he => bits_lt (by have := h e he; omega), fun j hj i hi => ?_⟩
  have e := sv_pow (poly := poly) (k := k) (a := j) x 0 i
  rw [Nat.add_zero, mzi_ext (Er_short x (by omega))] at e
  have b := sv_bound (c := fun q => zp poly k (j + q) i) (A := 4) (i := i) x 0 fun e he => by have := h e he; omega
  have e2 : sv (x.zipIdx 0) (fun q i => q.1 * zp poly k (j + q.2) i) i = sv (x.zipIdx 0) (fun q _ => q.1 * zp poly k (j + q.2) i) i := rfl
  rw [← e2, e, hx] at b
  have sm := F.sm
  unfold smB at sm
  simp only [List.all_eq_true, List.mem_range, decide_eq_true_eq] at sm
  have s1 := sm j hj i hi
  have e3 : (List.range k).map (fun q => (zp poly k (j + (0 + q)) i).natAbs) = (List.range k).map fun q => (vec ((rowsOf n).getD (j + q) []) i).natAbs := List.map_congr_left fun q hq => by
    rw [Nat.zero_add, (hz (j + q) (by have := List.mem_range.mp hq; omega)).2]
  rw [e3] at b
  omega
theorem mzi_whole (M : Mo poly k) {m : Int} {j : Nat} (hj : j < k) (i : Nat) : mzi poly k j (fun i => m * ev 0 i) i = m * ev j i := by
  have h := mzi_lin (poly := poly) (k := k) (u := zp poly k 0) (v := zp poly k 0) (w := fun i => m * ev 0 i) (a := m) (b := 0) (fun i => by show m * ev 0 i = m * ev 0 i + 0 * _; omega) j i
  rw [h, mzi_zp, Nat.zero_add, zp_unit M j hj]
  omega
theorem Fl.whole (F : Fl n poly k) {m : Int} (h : 0 ≤ m ∧ m ≤ 15) : ∃ y, R_law_turn_whole [.int n, .int m] (it y) ∧ MemOk poly k y := by
  have kn := F.kn
  obtain ⟨y, a, b, c, d⟩ := F.cut (m := 4) (row := [m]) (fun e he => bits_lt (by rw [List.mem_singleton.mp he]; omega)) (by simp; omega) (by simp; omega) (by omega)
  have hv : ∀ i, vec y i = m * ev 0 i := fun i => by
    rw [c, Er_short _ (by simp; omega)]
    unfold ev
    cases i with
    | zero => show m = _; rw [if_pos rfl]; omega
    | succ i => show 0 = _; rw [if_neg (by omega)]; omega
  refine ⟨y, ⟨n, m, rfl, a⟩, b, fun e he => ?_, fun j hj i hi => ?_⟩
  · obtain ⟨i, _, rfl⟩ := vec_mem he
    rw [hv]
    refine bits_lt ?_
    unfold ev
    split <;> omega
  · rw [mzi_ext hv, mzi_whole F.oo.mo hj]
    unfold ev
    split <;> omega
/-- a turn number drawn -/
theorem Fl.drawn (F : Fl n poly k) {d : Dice} {N : Nat} {most : Int} (h : d.okN (N + 200)) (hm : 0 ≤ most ∧ most ≤ 100) : ∃ f d', R_law_turn_drawn d.bs [.int n, .int most] (it f) (Dice.bs d') ∧ f.length = k ∧ (∀ e ∈ f, -most ≤ e ∧ e ≤ most) ∧ d'.okN N := by
  have kn := F.kn
  have pl := F.pl
  obtain ⟨a, b, c⟩ := td_ok (most := most) hm.1 d k N (h.less (by omega))
  have e : poly.length - 1 = k := by omega
  exact ⟨(tdM d most k).2, (tdM d most k).1, ⟨d, n, most, poly, rfl, rfl, F.cyc, by omega, by omega, h.less (by omega), hm.1, hm.2, by rw [e], by rw [e]⟩, a, b, c⟩
theorem Fl.other (F : Fl n poly k) {d : Dice} {N : Nat} (h : d.okN (N + 200)) : ∃ x d', R_law_turn_other d.bs [.int n, .int 4] (it x) (Dice.bs d') ∧ x.length = k ∧ (∀ e ∈ x, -4 ≤ e ∧ e ≤ 4) ∧ (∃ e ∈ x, e ≠ 0) ∧ d'.okN N := by
  have kn := F.kn
  obtain ⟨f, d', a, b, c, e⟩ := F.drawn (most := 4) h (by omega)
  have hf : f ≠ [] := fun z => by rw [z] at b; simp at b; omega
  cases hn : nzRow f with
  | true => exact ⟨f, d', ⟨d, n, 4, f, d', rfl, rfl, a, hf, .inl ⟨hn, rfl⟩, rfl⟩, b, c, nz_ex hn, e⟩
  | false =>
    obtain ⟨q, q1, q2, q3, q4⟩ := F.cut (m := 2) (row := [2, 1]) (bb_dec (by decide)) (by simp; omega) (by simp; omega) (by omega)
    have hv : ∀ i, vec q i = vec [2, 1] i := fun i => by rw [q3, Er_short _ (by simp; omega)]
    refine ⟨q, d', ⟨d, n, 4, f, d', rfl, rfl, a, hf, .inr ⟨hn, q1⟩, rfl⟩, q2, fun e he => ?_, ?_, e⟩
    · obtain ⟨i, _, rfl⟩ := vec_mem he
      rw [hv]
      match i with
      | 0 => exact ⟨by decide, by decide⟩
      | 1 => exact ⟨by decide, by decide⟩
      | i + 2 => exact ⟨by show (-4 : Int) ≤ 0; omega, by show (0 : Int) ≤ 4; omega⟩
    · refine ⟨q.getD 0 0, getD_in (by omega), ?_⟩
      have : q.getD 0 0 = 2 := hv 0
      omega
/-- least rows of an ideal, with a number in it -/
structure Idl (poly : List Int) (k : Nat) (q : List (List Int)) : Prop where
  hn : HN k q
  zc : Zc poly k q
  bd : ∀ r ∈ q, ∀ e ∈ r, e.natAbs ≤ 1000000000
theorem unit_all (M : Mo poly k) {rs : List (List Int)} (Z : Zc poly k rs) {N : Int} (h : In rs (fun i => N * ev 0 i)) : ∀ j, j < k → In rs (fun i => N * ev j i)
  | 0, _ => h
  | j + 1, hj => by
    have ih := unit_all M Z h j (by omega)
    refine (Z _ ih).ext fun i => ?_
    rw [mz_smul (u := ev j) (fun _ => rfl), ← mz_ext (zp_unit M j (by omega))]
    show N * ev (j + 1) i = N * zp poly k (j + 1) i
    rw [zp_unit M (j + 1) hj]
/-- the ideal of some members -/
theorem Fl.ideal (F : Fl n poly k) {members : List (List Int)} (hm : ∀ x ∈ members, MemOk poly k x) (hl : members.length ≤ 2) {x : List Int} (hx : x ∈ members) (h4 : ∀ e ∈ x, -4 ≤ e ∧ e ≤ 4) (h0 : ∃ e ∈ x, e ≠ 0) :
    ∃ q, R_law_ideal_rows R_law_span_rows [.int n, .lst (members.map it)] (rB q) ∧ Idl poly k q := by
  have kn := F.kn
  have pl := F.pl
  have ek : poly.length - 1 = k := by omega
  have pk : ∀ j : Nat, ∃ p, j < k → R_law_turn_power [.int n, .int (0 + (j : Int))] (it p) ∧ p.length = k ∧ (∀ i, vec p i = zp poly k j i) ∧ bb 3001 p := fun j => by
    by_cases hj : j < k
    · obtain ⟨p, h⟩ := F.pow (m := j) (by omega)
      exact ⟨p, fun _ => by rw [Int.zero_add]; exact h⟩
    · exact ⟨[], fun z => absurd z hj⟩
  obtain ⟨p, hp⟩ : ∃ p : Nat → List Int, ∀ j, j < k → R_law_turn_power [.int n, .int (0 + (j : Int))] (it (p j)) ∧ (p j).length = k ∧ (∀ i, vec (p j) i = zp poly k j i) ∧ bb 3001 (p j) := ⟨fun j => Classical.choose (pk j), fun j => Classical.choose_spec (pk j)⟩
  have tk : ∀ (m : List Int) (j : Nat), ∃ t, m ∈ members → j < k → R_law_turn_times [.int n, it m, it (p j)] (it t) ∧ t.length = k ∧ (∀ i, vec t i = mzi poly k j (vec m) i) := fun m j => by
    by_cases hc : m ∈ members ∧ j < k
    · obtain ⟨_, b1, b2, b3⟩ := hp j hc.2
      obtain ⟨t, t1, t2, t3, _⟩ := F.times (hm m hc.1).len (hm m hc.1).bits (by omega) b1 b2 b3
      exact ⟨t, fun _ _ => ⟨t1, t2, t3⟩⟩
    · exact ⟨[], fun a b => absurd ⟨a, b⟩ hc⟩
  obtain ⟨tm, ht⟩ : ∃ tm : List Int → Nat → List Int, ∀ m j, m ∈ members → j < k → R_law_turn_times [.int n, it m, it (p j)] (it (tm m j)) ∧ (tm m j).length = k ∧ (∀ i, vec (tm m j) i = mzi poly k j (vec m) i) := ⟨fun m j => Classical.choose (tk m j), fun m j => Classical.choose_spec (tk m j)⟩
  obtain ⟨rows, hrows⟩ : ∃ rows, rows = members.flatMap fun m => (List.range k).map (tm m) := ⟨_, rfl⟩
  have hr : ∀ r ∈ rows, r.length = k ∧ ∀ i, (vec r i).natAbs ≤ 16 := fun r hr => by
    rw [hrows] at hr
    obtain ⟨m, hmm, hr⟩ := List.mem_flatMap.mp hr
    obtain ⟨j, hj, rfl⟩ := List.mem_map.mp hr
    have hj := List.mem_range.mp hj
    obtain ⟨_, t2, t3⟩ := ht m j hmm hj
    refine ⟨t2, fun i => ?_⟩
    by_cases hi : i < k
    · rw [t3]
      exact (hm m hmm).sm j hj i hi
    · rw [vec_out t2 (by omega)]
      decide
  have hc : rows.length ≤ 12 := by
    rw [hrows, List.length_flatMap]
    have := sum_le (l := members) (f := fun m => ((List.range k).map (tm m)).length) (c := 6) fun m _ => by rw [List.length_map, List.length_range]; exact kn.2.1
    omega
  have Z : Zc poly k rows := by
    rw [hrows]
    exact Zc.mem F.oo.mo fun x hx m hmk i => by rw [(ht x m hx hmk).2.2, mzi_ext (Er_short x (by have := (hm x hx).len; omega))]
  have hxin : In rows (vec x) := by
    have h1 : In rows (vec (tm x 0)) := In.mem (by
      rw [hrows]
      exact List.mem_flatMap.mpr ⟨x, hx, List.mem_map.mpr ⟨0, List.mem_range.mpr (by omega), rfl⟩⟩)
    exact h1.ext fun i => ((ht x 0 hx (by omega)).2.2 i).symm
  obtain ⟨N, N1, N2, N3⟩ := F.nrm Z (hm x hx).len h4 h0 hxin
  have Nj := unit_all F.oo.mo Z N3
  obtain ⟨fuel, q, s1, s2, s3⟩ := span_ok (by omega) kn.2.1 hr hc N1 Nj
  refine ⟨q, ⟨n, members, poly, fun j => it (p j), tm, q, rfl, F.cyc, by omega, by omega, by omega, fun m hmm j hj => ?_, ?_, rfl⟩, s2, Z.eqv s3, fun r hr e he => ?_⟩
  · rw [ek] at hj
    exact ⟨(hp j hj).1, (ht m j hmm hj).1⟩
  · rw [ek, ← hrows]
    exact ⟨rows, k, fuel, q, rfl, by omega, by omega, by omega, fun r h z => by have := (hr r h).1; rw [z] at this; simp at this; omega, s1, rfl⟩
  · obtain ⟨i, _, rfl⟩ := vec_mem he
    have := s2.bound N1 (fun j hj => (s3 _).1 (Nj j hj)) r hr i
    omega
/-- the law's ideal drawn -/
theorem Fl.idraw (F : Fl n poly k) {d : Dice} {N : Nat} (h : d.okN (N + 205)) : ∃ q d', R_law_ideal_drawn R_law_span_rows d.bs [.int n] (rB q) (Dice.bs d') ∧ Idl poly k q ∧ d'.okN N := by
  obtain ⟨x, d1, a1, a2, a3, a4, a5⟩ := F.other (N := N + 5) (h.less (by omega))
  have r := roll_range d1 (t := 3) (by omega)
  have mx := F.mem a2 a3
  have o1 := a5.roll (t := 3) (by omega)
  by_cases h0 : rollV d1 3 = 0
  · obtain ⟨q, q1, q2⟩ := F.ideal (members := [x]) (fun y hy => by rw [List.mem_singleton.mp hy]; exact mx) (by simp) (List.mem_cons_self ..) a3 a4
    exact ⟨q, rollD d1 3, ⟨d, n, x, d1, rfl, rfl, a1, a5.less (by omega), .inl ⟨h0, q1, rfl⟩⟩, q2, o1.less (by omega)⟩
  · have r9 := roll_range (rollD d1 3) (t := 9) (by omega)
    have hw : 0 ≤ wholeV (rollD d1 3) ∧ wholeV (rollD d1 3) ≤ 15 := by
      have key : ∀ i : Nat, i < 9 → 0 ≤ wholes.getD i 0 ∧ wholes.getD i 0 ≤ 15 := by decide
      exact key _ (by omega)
    obtain ⟨y, y1, y2⟩ := F.whole hw
    obtain ⟨q, q1, q2⟩ := F.ideal (members := [x, y]) (fun z hz => by
      simp only [List.mem_cons, List.not_mem_nil, or_false] at hz
      rcases hz with rfl | rfl
      · exact mx
      · exact y2) (by simp) (List.mem_cons_self ..) a3 a4
    exact ⟨q, rollD (rollD d1 3) 9, ⟨d, n, x, d1, rfl, rfl, a1, a5.less (by omega), .inr ⟨by omega, y, y1, q1, rfl⟩⟩, q2, (o1.roll (by omega)).less (by omega)⟩
end
end Q
end

/-! text MP -/
section
set_option Elab.async false
set_option linter.all false
set_option maxRecDepth 100000
/-! all that the law's one draw shows -/
namespace Q
open PySem PySem.Spec PyProof.Rows L2
theorem cut_mem {α : Type} {xs : List α} {lo hi : Option Int} {x : α} (h : x ∈ cut xs lo hi) : x ∈ xs := by
  unfold cut at h
  exact List.mem_of_mem_drop (List.mem_of_mem_take h)
theorem nb_i {i : Int} (h : i.natAbs ≤ 10000000000) : nb (.int i) := ⟨⟨_, rfl⟩, fun j e => by cases e; exact h⟩
theorem nbRow_it {r : List Int} (h : ∀ e ∈ r, e.natAbs ≤ 10000000000) : nbRow (it r) := fun x hx => by
  obtain ⟨i, hi, rfl⟩ := List.mem_map.mp hx
  exact nb_i (h i hi)
theorem getD_row {rows : List (List Int)} {a : Nat} {e : Int} (h : e ∈ rows.getD a []) : ∃ r ∈ rows, e ∈ r := by
  by_cases ha : a < rows.length
  · exact ⟨_, getD_in ha, h⟩
  · rw [List.getD_eq_getElem?_getD, List.getElem?_eq_none (by omega)] at h
    cases h
theorem nbAll_tup {vs : List B} (h : ∀ v ∈ vs, nbRow v) : nbAll (.tup vs) := h
theorem near_nb {rows : List (List Int)} {last : List Int} {a t : Nat} (hb : ∀ r ∈ rows, ∀ e ∈ r, e.natAbs ≤ 1000000000) (hl : last ∈ rows) : ∀ v ∈ nearL rows last a t, nbAll v := by
  have hI : ∀ x ∈ rI rows, nbRow x := fun x hx => by
    obtain ⟨r, hr, rfl⟩ := List.mem_map.mp hx
    exact nbRow_it fun e he => by have := hb r hr e he; omega
  have hD : ∀ e ∈ rows.getD a [], e.natAbs ≤ 1000000000 := fun e he => by
    obtain ⟨r, hr, h⟩ := getD_row he
    exact hb r hr e h
  have hx : ((rows.getD a []).getD t 0).natAbs ≤ 1000000000 := by
    by_cases ht : t < (rows.getD a []).length
    · exact hD _ (getD_in ht)
    · rw [List.getD_eq_getElem?_getD, List.getElem?_eq_none (by omega)]
      decide
  intro v hv
  unfold nearL at hv
  rw [List.mem_append, List.mem_append] at hv
  rcases hv with (hv | hv) | hv
  · unfold nearHead at hv
    simp only [List.mem_cons, List.not_mem_nil, or_false] at hv
    rcases hv with rfl | rfl | rfl | rfl | rfl | rfl | rfl | rfl
    · exact nbAll_tup hI
    · exact ⟨_, rfl⟩
    · exact nbAll_tup fun x hx => hI x (cut_mem hx)
    · exact nbAll_tup fun x hx => by
        rcases List.mem_append.mp hx with hx | hx
        · exact hI x hx
        · exact hI x (cut_mem hx)
    · exact ⟨_, rfl⟩
    · exact nbAll_tup fun x hx => hI x (by simpa using hx)
    · exact nbAll_tup fun x hx => by
        rcases List.mem_append.mp hx with hx | hx
        · exact hI x (cut_mem hx)
        · rw [List.mem_singleton.mp hx]
          exact ⟨_, rfl⟩
    · exact ⟨_, rfl⟩
  · obtain ⟨e, he, rfl⟩ := List.mem_map.mp hv
    have ne : nb e := by
      unfold nearVals at he
      simp only [List.mem_cons, List.not_mem_nil, or_false] at he
      rcases he with rfl | rfl | rfl | rfl | rfl | rfl | rfl
      · exact nb_i (by omega)
      · exact nb_i (by omega)
      · exact nb_i (by omega)
      · exact nb_i (by omega)
      · exact ⟨⟨_, rfl⟩, fun j e => by cases e⟩
      · exact ⟨⟨_, rfl⟩, fun j e => by cases e⟩
      · exact nb_i (by decide)
    have hiB : ∀ x ∈ iB (rows.getD a []), nb x := fun x hx => by
      obtain ⟨i, hi, rfl⟩ := List.mem_map.mp hx
      exact nb_i (by have := hD i hi; omega)
    refine nbAll_tup fun x hx => ?_
    rw [List.mem_append, List.mem_append] at hx
    rcases hx with (hx | hx) | hx
    · exact hI x (cut_mem hx)
    · rw [List.mem_singleton.mp hx]
      show ∀ y ∈ _, nb y
      intro y hy
      rw [List.mem_append, List.mem_append] at hy
      rcases hy with (hy | hy) | hy
      · exact hiB y (cut_mem hy)
      · rw [List.mem_singleton.mp hy]
        exact ne
      · exact hiB y (cut_mem hy)
    · exact hI x (cut_mem hx)
  · unfold nearTail at hv
    simp only [List.mem_cons, List.not_mem_nil, or_false] at hv
    rcases hv with rfl | rfl | rfl
    · exact nbAll_tup fun x hx => by
        obtain ⟨r, hr, rfl⟩ := List.mem_map.mp hx
        refine nbRow_it fun e he => ?_
        obtain ⟨f, hf, rfl⟩ := List.mem_map.mp he
        have := hb r hr f hf
        omega
    · exact nbAll_tup fun x hx => by
        rcases List.mem_append.mp hx with hx | hx
        · exact hI x (cut_mem hx)
        · rw [List.mem_singleton.mp hx]
          refine nbRow_it fun e he => ?_
          obtain ⟨f, hf, rfl⟩ := List.mem_map.mp he
          have := hb last hl f hf
          omega
    · exact nbAll_tup fun x hx => by
        rcases List.mem_append.mp hx with hx | hx
        · exact hI x (cut_mem hx)
        · rw [List.mem_singleton.mp hx]
          show ∀ y ∈ _, nb y
          intro y hy
          obtain ⟨i, hi, rfl⟩ := List.mem_map.mp (cut_mem hy)
          exact nb_i (by have := hb last hl i hi; omega)
theorem nbAll_kn {v : B} (h : nbAll v) : known v := by
  cases v <;> first | exact h | exact ⟨_, rfl⟩
section
variable {poly : List Int} {k n : Nat}
abbrev Fl.fr (_ : Fl n poly k) : B := frB n (rowsOf n) k (unitsM n)
theorem Fl.init (F : Fl n poly k) {vs : List (List Int)} (hn : HN k vs) (hs : smR vs) (h : R_are_ideal_rows [frB n (rowsOf n) k (unitsM n), rB vs] (.bl true)) : R_ideal_init [.int n, rB vs] [frB n (rowsOf n) k (unitsM n), .int n, rB vs, .int (dpr 0 vs), .str (idT vs n)] := by
  have kn := F.kn
  refine ⟨n, rowsOf n, k, unitsM n, vs, dpr 0 vs, rfl, (hn.sz kn.2.1 (by omega) (Nat.le_refl _) hs).1, ?_, .inr ⟨rfl, F.req, F.frame.2, h⟩⟩
  exact (tx_ok (k := k) (by omega) (by rw [hn.len]; exact Nat.le_refl _) (fun r hr => by rw [hn.lens r hr]; exact Nat.le_refl _) (fun r hr e he => by have := hs r hr e he; omega) (by omega)).1
theorem Fl.jud (F : Fl n poly k) {v : B} (hv : nbAll v) : ∃ r : Bool, R_law_are_ideal_rows [.int n, v] (.bl r) ∧ R_law_made_or_none [.int n, v] (if r then v else .non) ∧ Cmp (if r then v else .non) := by
  obtain ⟨r, a, b, c, _⟩ := F.judge hv
  refine ⟨r, a, ?_⟩
  cases r with
  | false => exact ⟨⟨n, v, rfl, .inl ⟨rfl, n, v, rowsOf n, k, unitsM n, rfl, nbAll_kn hv, F.req, F.frame.2, b⟩⟩, cmp_non⟩
  | true =>
    obtain ⟨vs, rfl, hn, hs⟩ := c rfl
    exact ⟨⟨n, _, rfl, .inr ⟨rowsOf n, k, unitsM n, vs, dpr 0 vs, rfl, rfl, F.init hn hs b⟩⟩, cmp_rB vs⟩
/-- one of the six draws -/
def DrawP (n : Nat) (rows : List (List Int)) (i : Nat) (d : Dice) (e : List Int) (d' : Dice) : Prop := if 1 < i then R_law_turn_drawn d.bs [.int n, .int 5] (it e) d'.bs else R_law_pick d.bs [rB rows] (it e) d'.bs
theorem Fl.step (F : Fl n poly k) {rows : List (List Int)} (I : Idl poly k rows) (i : Nat) {d : Dice} {N : Nat} (h : d.okN (N + 200)) : ∃ e d', DrawP n rows i d e d' ∧ e.length = k ∧ (∀ z ∈ e, z.natAbs ≤ 1000000000) ∧ d'.okN N := by
  have kn := F.kn
  unfold DrawP
  by_cases hi : 1 < i
  · obtain ⟨f, d', a, b, c, e⟩ := F.drawn (most := 5) h (by omega)
    exact ⟨f, d', by rw [if_pos hi]; exact a, b, fun z hz => by have := c z hz; omega, e⟩
  · have l := I.hn.len
    have r := roll_range d (t := (rows.length : Int)) (by omega)
    have hl : (rollV d rows.length).toNat < rows.length := by omega
    have hm : rows.getD (rollV d rows.length).toNat [] ∈ rows := getD_in hl
    have lm : (rows.map it).length = rows.length := List.length_map ..
    refine ⟨rows.getD (rollV d rows.length).toNat [], rollD d rows.length, ?_, I.hn.lens _ hm, I.bd _ hm, (h.roll (n := N + 199) (by omega)).less (by omega)⟩
    rw [if_neg hi]
    refine ⟨d, false, rows.map it, rfl, rfl, h.ok, by omega, by omega, ?_, by rw [lm]⟩
    rw [lm, List.getElem?_map, List.getD_eq_getElem?_getD, List.getElem?_eq_getElem hl]
    rfl
theorem Fl.steps (F : Fl n poly k) {rows : List (List Int)} (I : Idl poly k rows) : ∀ (m s : Nat) (d : Dice) (N : Nat), d.okN (N + 200 * m) → ∃ (Ds : Nat → Dice) (Es : Nat → List Int), Ds 0 = d ∧ (∀ i, i < m → DrawP n rows (s + i) (Ds i) (Es i) (Ds (i + 1)) ∧ (Es i).length = k ∧ ∀ z ∈ Es i, z.natAbs ≤ 1000000000) ∧ (Ds m).okN N
  | 0, s, d, N, h => ⟨fun _ => d, fun _ => [], rfl, (fun i hi => absurd hi (by omega)), h.less (by omega)⟩
  | m + 1, s, d, N, h => by
    obtain ⟨e, d', a, b, c, o⟩ := F.step I s (d := d) (N := N + 200 * m) (h.less (by omega))
    obtain ⟨Ds, Es, a1, a2, a3⟩ := F.steps I m (s + 1) d' N o
    refine ⟨fun i => match i with | 0 => d | i + 1 => Ds i, fun i => match i with | 0 => e | i + 1 => Es i, rfl, fun i hi => ?_, a3⟩
    cases i with
    | zero => exact ⟨by show DrawP n rows s d e (Ds 0); rw [a1]; exact a, b, c⟩
    | succ i =>
      have := a2 i (by omega)
      rw [show s + 1 + i = s + (i + 1) by omega] at this
      exact this
theorem ints_ok {es : List Int} (h : ∀ z ∈ es, z.natAbs < 10 ^ 60) : es.all (fun e => isInteger (.int e)) = true := by
  rw [List.all_eq_true]
  intro e he
  have := h e he
  show (decide (-(10 ^ 60) < e) && decide (e < 10 ^ 60)) = true
  rw [decide_eq_true (by omega), decide_eq_true (by omega)]
  rfl
/-- ONE DRAW IS RIGHT -/
theorem right_ok {d : Dice} {N : Nat} (h : d.okN (N + 2000)) : ∃ d', R_law_right R_law_span_rows d.bs [] (.bl true) (Dice.bs d') ∧ d'.okN N := by
  obtain ⟨n, poly, k, en, F⟩ := fl_any d
  have kn := F.kn
  have nle := F.le
  have o1 := h.roll (n := N + 1999) (t := 14) (by omega)
  obtain ⟨rows, d2, a1, I, o2⟩ := F.idraw (d := rollD d 14) (N := N + 1700) (o1.less (by omega))
  have hn := I.hn
  have l := hn.len
  have hs : smR rows := fun r hr e he => by have := I.bd r hr e he; omega
  have hb : ∀ r ∈ rows, bb 40 r := hs.bb
  -- the values near
  have hlast : rows.getD (k - 1) [] ∈ rows := getD_in (by omega)
  have elast : atI rows (-1) = some (rows.getD (k - 1) []) := by
    unfold atI ixN
    rw [if_neg (by omega), if_pos (by omega)]
    show rows[((rows.length : Int) + -1).toNat]? = _
    rw [show ((rows.length : Int) + -1).toNat = k - 1 by omega, List.getD_eq_getElem?_getD, List.getElem?_eq_getElem (by omega)]
    rfl
  obtain ⟨vals, hvals⟩ : ∃ vals, vals = nearL rows (rows.getD (k - 1) []) (rollV d2 rows.length).toNat (rollV (rollD d2 rows.length) rows.length).toNat := ⟨_, rfl⟩
  have hnb : ∀ v ∈ vals, nbAll v := by
    rw [hvals]
    exact near_nb I.bd hlast
  have o3 : (rollD (rollD d2 rows.length) rows.length).okN (N + 1690) := ((o2.roll (n := N + 1699) (by omega)).roll (n := N + 1698) (by omega)).less (by omega)
  have near : R_law_near d2.bs [rB rows] (.lst vals) (Dice.bs (rollD (rollD d2 rows.length) rows.length)) :=
    ⟨d2, rows, rows.getD (k - 1) [], rfl, rfl, o2.less (by omega), by omega, by omega, fun r hr => by rw [l]; exact hn.lens r hr, elast, fun r hr e he => ⟨cmulx (m := 2) (by decide) (hb r hr e he) (by omega), cmulx (m := 2) (by decide) (hb r hr e he) (by omega)⟩, by rw [hvals], rfl⟩
  -- the judgements
  have hj : ∀ v : B, ∃ r : Bool, nbAll v → R_law_are_ideal_rows [.int n, v] (.bl r) ∧ R_law_made_or_none [.int n, v] (if r then v else .non) ∧ Cmp (if r then v else .non) := fun v => by
    by_cases hv : nbAll v
    · obtain ⟨r, a⟩ := F.jud hv
      exact ⟨r, fun _ => a⟩
    · exact ⟨false, fun z => absurd z hv⟩
  obtain ⟨isR, hisR⟩ : ∃ isR : B → Bool, ∀ v, nbAll v → R_law_are_ideal_rows [.int n, v] (.bl (isR v)) ∧ R_law_made_or_none [.int n, v] (if isR v then v else .non) ∧ Cmp (if isR v then v else .non) := ⟨fun v => Classical.choose (hj v), fun v => Classical.choose_spec (hj v)⟩
  -- the ideal
  have nbq : nbAll (rB rows) := nbAll_tup fun x hx => by
    obtain ⟨r, hr, rfl⟩ := List.mem_map.mp hx
    exact nbRow_it (hs r hr)
  obtain ⟨r, _, ar, _, rt⟩ := F.judge nbq
  have rt := rt rows rfl hs hn I.zc
  subst rt
  obtain ⟨sz1, sz2⟩ := hn.sz (M := 1000000000) kn.2.1 (by omega) (by omega) I.bd
  have szb : (dpr 0 rows).natAbs < 10 ^ 60 := by
    have : (1000000000 : Nat) ^ k ≤ 1000000000 ^ 6 := Nat.pow_le_pow_right (by omega) kn.2.1
    have : (1000000000 : Nat) ^ 6 < 10 ^ 60 := by decide +kernel
    omega
  obtain ⟨tx, tx1, tx2, tx3⟩ := tx_ok (n := (n : Int)) (k := k) (rows := rows) (by omega) (by omega) (fun r hr => by rw [hn.lens r hr]; exact Nat.le_refl _) (fun r hr e he => by have := hs r hr e he; omega) (by omega)
  -- the six draws
  obtain ⟨Ds, Es, e0, e1, e2⟩ := F.steps I 6 0 (rollD (rollD d2 rows.length) rows.length) N (o3.less (by omega))
  have hB : ∀ i, i < 6 → liM rows.zipIdx (Es i) = some ((liM rows.zipIdx (Es i)).getD false) ∧ isM rows.zipIdx (Es i) = some ((liM rows.zipIdx (Es i)).getD false) := fun i hi => by
    obtain ⟨_, b1, b2⟩ := e1 i hi
    obtain ⟨b, c1, c2⟩ := hn.both (n := 40) (m := 40) (by omega) (by omega) hb b1 (fun z hz => bits_lt (by have := b2 z hz; omega)) (by omega)
    rw [c1]
    exact ⟨rfl, c2⟩
  -- the turns
  obtain ⟨fr2, hfr2⟩ : ∃ fr2, frQ (2 * n) = some fr2 := Option.isSome_iff_exists.mp F.dbl.1
  obtain ⟨p2, rows2⟩ := fr2
  obtain ⟨q1, q2, q3⟩ := frQ_ok hfr2
  have p2l : p2.length ≤ 20 := by
    have := F.dbl.2
    unfold polyOf at this
    rw [hfr2] at this
    exact this
  have en2 : (((2 * n : Nat)) : Int) = (n : Int) * 2 := by omega
  rw [en2] at q3
  have tw2 : R_turn_whole [.cl 2, .int ((n : Int) * 2), .int 0] (.ob 2 [it (0 :: List.replicate (p2.length - 1 - 1) 0), frB ((n : Int) * 2) rows2 (p2.length - 1) (unitsM (2 * n)), .int ((n : Int) * 2)]) := ⟨(n : Int) * 2, rows2, p2.length - 1, unitsM (2 * n), 0, rfl, by omega, by omega, by decide +kernel, q3, by omega, by omega, rfl⟩
  have tw : ∀ m : Int, m.natAbs < 10 ^ 60 → R_turn_whole [.cl 2, .int n, .int m] (.ob 2 [it (m :: List.replicate (k - 1) 0), frB n (rowsOf n) k (unitsM n), .int n]) := fun m hm => ⟨n, rowsOf n, k, unitsM n, m, rfl, by omega, by omega, by
    have := ints_ok (es := [m]) (fun z hz => by rw [List.mem_singleton.mp hz]; exact hm)
    simpa using this, F.frame.2, by omega, by omega, rfl⟩
  have inS : In rows (vec (dpr 0 rows :: List.replicate (k - 1) 0)) := (hn.tri.prod (by omega) 0 (by omega)).ext fun i => by
    show _ = dpr 0 rows * ev (0 + 0) i
    unfold ev vec
    cases i with
    | zero => rw [if_pos rfl]; show dpr 0 rows = _; omega
    | succ i =>
      rw [if_neg (by omega)]
      show (List.replicate (k - 1) (0 : Int)).getD i 0 = _
      rw [List.getD_eq_getElem?_getD, List.getElem?_replicate]
      split <;> simp
  have s1 := (hn.inside (n := 40) (m := 200) (by omega) (by omega) hb (left := dpr 0 rows :: List.replicate (k - 1) 0) (by rw [List.length_cons, List.length_replicate]; omega) (fun e he => by
    rcases List.mem_cons.mp he with rfl | he
    · exact bits_lt (by have : (10 : Nat) ^ 60 < 2 ^ 200 := by decide +kernel
                        omega)
    · rw [(List.mem_replicate.mp he).2, bits0]
      omega) (by omega) inS).2
  refine ⟨Ds 6, ⟨d, n, rows, rollD d 14, d2, rollD (rollD d2 rows.length) rows.length, vals, fun v => if isR v then v else .non, isR, rowsOf n, k, unitsM n, dpr 0 rows, Ds, Es, fun i => (liM rows.zipIdx (Es i)).getD false, .ob 2 [it (0 :: List.replicate (p2.length - 1 - 1) 0), frB ((n : Int) * 2) rows2 (p2.length - 1) (unitsM (2 * n)), .int ((n : Int) * 2)], .ob 2 [it (0 :: List.replicate (k - 1) 0), frB n (rowsOf n) k (unitsM n), .int n], .ob 2 [it (dpr 0 rows :: List.replicate (k - 1) 0), frB n (rowsOf n) k (unitsM n), .int n], rows.getD 0 [], rfl, rfl, ?_, rfl, rfl⟩, e2⟩
  exact {
    order := ⟨d, rfl, rfl, h.ok, by rw [en], rfl⟩
    drawn := a1
    near := near
    judged := fun v hv => by
      obtain ⟨j1, j2, j3⟩ := hisR v (hnb v hv)
      exact ⟨j1, rfl, j2, j3⟩
    init := F.init hn hs ar
    tx := tx
    txl := ⟨tx1, tx2⟩
    cmp4 := cmp_four _ _ _ (okS_idT _ _)
    lsz := ⟨rows, _, rfl, sz1, rfl⟩
    cmpR := cmp_lR rows
    eqT := ⟨n, rowsOf n, k, unitsM n, rows, dpr 0 rows, _, rfl, .inr ⟨_, rows, _, _, rfl, cmp_rB rows, cmp_rB rows, by rw [eqv_self (cmp_rB rows)]⟩⟩
    len0 := by omega
    ds0 := e0
    draws := fun i hi => by
      obtain ⟨b0, b1, b2⟩ := e1 i hi
      obtain ⟨c1, c2⟩ := hB i hi
      rw [Nat.zero_add] at b0
      refine ⟨b0, ⟨frB n (rowsOf n) k (unitsM n), .inr ⟨n, rowsOf n, k, unitsM n, Es i, rfl, by omega, by omega, F.frame.2, b1, by omega, ints_ok (fun z hz => by have := b2 z hz; omega), rfl⟩, n, rowsOf n, k, unitsM n, rows, dpr 0 rows, _, rfl, .inl ⟨Es i, _, n, rfl, .inr ⟨rfl, rows, Es i, _, rfl, c2, rfl⟩⟩⟩, rows, Es i, _, rfl, c1, rfl⟩
    row0 := by
      rw [List.getD_eq_getElem?_getD, List.getElem?_eq_getElem (show 0 < rows.length by omega)]
      rfl
    tw2 := tw2
    tw1 := tw 0 (by decide +kernel)
    tws := tw _ szb
    odd2 := ⟨n, rowsOf n, k, unitsM n, rows, dpr 0 rows, _, rfl, .inl ⟨_, _, _, rfl, .inl ⟨by omega, rfl⟩⟩⟩
    odds := ⟨n, rowsOf n, k, unitsM n, rows, dpr 0 rows, _, rfl, .inl ⟨_, _, _, rfl, .inr ⟨rfl, rows, _, _, rfl, s1, rfl⟩⟩⟩
    nsm := by omega }
end
end Q
end

/-! text MQ -/
section
set_option Elab.async false
set_option linter.all false
set_option maxRecDepth 100000
/-! the law holds of every script, in plain Lean -/
namespace Q
open PySem PySem.Spec PyProof.Rows L2
theorem abs_nn (i : Int) : 0 ≤ absI i := by unfold absI; split <;> omega
theorem dice_ok (ns : List Int) {i : Int} (h0 : 0 ≤ i) (h1 : i ≤ 10) : (diceOf ns i).okN 4000 := by
  have p1 : (10 : Int) ^ 60 * 10 ^ 58 = 10 ^ 118 := by decide +kernel
  have m1 : ∀ x : Int, 0 ≤ x.fmod (10 ^ 60 * 10 ^ 58) ∧ x.fmod (10 ^ 60 * 10 ^ 58) < 10 ^ 118 := fun x => by
    rw [p1]
    exact ⟨Int.fmod_nonneg_of_pos _ (by decide +kernel), Int.fmod_lt_of_pos _ (by decide +kernel)⟩
  have m2 : ∀ x : Int, 0 ≤ x.fmod 1152921504606846869 ∧ x.fmod 1152921504606846869 < 1152921504606846869 := fun x => ⟨Int.fmod_nonneg_of_pos _ (by omega), Int.fmod_lt_of_pos _ (by omega)⟩
  have b1 : (10 : Nat) ^ 118 < 2 ^ 1000 := by decide +kernel
  have b2 : (100000000000000000000000 : Nat) < 2 ^ 1000 := by decide +kernel
  refine ⟨?_, ?_, Int.le_refl _, by show (0 : Int) + 4000 < _; decide⟩
  · have := m1 (if absI (diceCell ns i) - 10 ^ 17 > 0 then absI (diceCell ns i) - 10 ^ 17 else 0)
    show Int.natAbs (Int.fmod _ _) < _
    omega
  · have := m2 (absI (diceCell ns i))
    show Int.natAbs (_ * 53 + 863 * i + 43 * (if diceCell ns i < 0 then 1 else 0) + 3) < _
    split <;> omega
theorem unit_le {k : Nat} : ∀ r ∈ unitRows k, r.length = k ∧ ∀ e ∈ r, e.natAbs ≤ 1 := fun r hr => by
  obtain ⟨a, _, rfl⟩ := List.mem_map.mp hr
  refine ⟨by unfold unitRow; rw [List.length_map, List.length_range], fun e he => ?_⟩
  obtain ⟨p, _, rfl⟩ := List.mem_map.mp he
  split <;> decide
theorem whole_ok {n k : Nat} {poly : List Int} {sz : Int} (hf : frQ n = some (poly, rowsOf n)) (hn : 1 ≤ n ∧ n ≤ 60) (hu : (unitsM n).length ≤ 8) (hp : poly.length = k + 1) (hk : k ≤ 60) (hs : szM (unitRows k) = some sz) : R_whole_ideal [.int n] (idB n (rowsOf n) k (unitsM n) (unitRows k) sz) := by
  obtain ⟨_, a, b⟩ := frQ_ok hf
  have ek : poly.length - 1 = k := by omega
  rw [ek] at b
  have l : (unitRows k).length = k := by unfold unitRows; rw [List.length_map, List.length_range]
  exact ⟨n, rowsOf n, k, unitsM n, rfl, ⟨n, unitsM n, rfl, by omega, by omega, a, hu, rfl⟩, b, n, rowsOf n, k, unitsM n, sz, rfl, by omega, hs, (tx_ok (k := k) hk (by omega) (fun r hr => by rw [(unit_le r hr).1]; exact Nat.le_refl _) (fun r hr e he => by have := (unit_le r hr).2 e he; omega) (by omega)).1, rfl⟩
theorem fr1 : frQ 1 = some ([-1, 1], rowsOf 1) := by decide +kernel
theorem w_one : R_whole_ideal [.int 1] (idB 1 (rowsOf 1) 1 (unitsM 1) [[1]] 1) := whole_ok (n := 1) (k := 1) fr1 (by omega) (by decide +kernel) rfl (by omega) (by decide +kernel)
theorem w_two : R_whole_ideal [.int 2] (idB 2 (rowsOf 2) 1 (unitsM 2) [[1]] 1) := whole_ok (n := 2) (k := 1) (poly := [1, 1]) (by decide +kernel) (by omega) (by decide +kernel) rfl (by omega) (by decide +kernel)
theorem w_three : R_whole_ideal [.int 3] (idB 3 (rowsOf 3) 2 (unitsM 3) [[1, 0], [0, 1]] 1) := whole_ok (n := 3) (k := 2) (poly := [1, 1, 1]) (by decide +kernel) (by omega) (by decide +kernel) rfl (by omega) (by decide +kernel)
theorem w_thirty : R_whole_ideal [.int 30] (idB 30 (rowsOf 30) 8 (unitsM 30) (unitRows 8) 1) := whole_ok (n := 30) (k := 8) (poly := [1, 1, 0, -1, -1, -1, 0, 1, 1]) (by decide +kernel) (by omega) (by decide +kernel) rfl (by omega) (by decide +kernel)
theorem i_six : R_ideal_init [.int 1, rB [[6]]] [frB 1 (rowsOf 1) 1 (unitsM 1), .int 1, rB [[6]], .int 6, .str (idT [[6]] 1)] := by
  obtain ⟨_, a, b⟩ := frQ_ok fr1
  have nbq : nbAll (rB [[6]]) := nbAll_tup fun x hx => by
    rw [List.mem_singleton.mp hx]
    exact nbRow_it fun e he => by rw [List.mem_singleton.mp he]; decide
  refine ⟨1, rowsOf 1, 1, unitsM 1, [[6]], 6, rfl, by decide +kernel, (tx_ok (k := 1) (by omega) (by decide) (fun r hr => by rw [List.mem_singleton.mp hr]; decide) (fun r hr e he => by rw [List.mem_singleton.mp hr] at he; rw [List.mem_singleton.mp he]; decide +kernel) (by decide +kernel)).1,
    .inr ⟨rfl, ⟨1, unitsM 1, rfl, by omega, by omega, a, by decide +kernel, rfl⟩, b, 1, rowsOf 1, 1, unitsM 1, _, rfl, by omega, nbAll_known nbq, .inr ⟨[[6]], rfl, by decide +kernel, by decide, .inr ⟨by decide +kernel, fun _ => [6], fun _ => true, fun row hr => ?_, rfl⟩⟩⟩⟩
  rw [List.mem_singleton.mp hr]
  have e0 : (rowsOf 1).getD 0 [] = [1] := by decide +kernel
  have l2 : (rowsOf 1).length = 2 := by decide +kernel
  have er : rowsOf 1 = [[1], [1]] := by decide +kernel
  refine ⟨⟨1, rowsOf 1, 1, unitsM 1, it [6], it [1], rfl, ⟨1, rowsOf 1, 1, unitsM 1, 1, [1], rfl, by omega, by decide +kernel, rfl⟩, 1, rowsOf 1, 1, unitsM 1, false, [6], false, [1], rfl, by decide, by decide, by omega, fun e he g hg => ?_, 1, rowsOf 1, 1, unitsM 1, prM 1 [6] [1], rfl, by decide +kernel, by decide +kernel, by omega, fun i hi o ho => ?_, ?_⟩, [[6]], [6], true, rfl, by decide +kernel, rfl⟩
  · rw [List.mem_singleton.mp he, List.mem_singleton.mp hg]
    exact cmulx (m := 3) (l := 3) (by decide) (by decide) (by omega)
  · have ep : prM 1 [6] [1] = [6, 0] := by decide +kernel
    rw [ep] at hi ⊢
    have hi : 1 + i < 2 := hi
    have : i = 0 := by omega
    subst this
    rw [er] at ho
    rw [List.mem_singleton.mp ho]
    exact cmulx (m := 3) (l := 3) (by decide) (by decide) (by omega)
  · rw [show foM (rowsOf 1) (prM 1 [6] [1]) 1 = [6] by decide +kernel]
theorem i_bad : R_law_made_or_none [.int 4, rB [[1, 1], [0, 5]]] .non := by
  have nbq : nbAll (rB [[1, 1], [0, 5]]) := nbAll_tup fun x hx => by
    simp only [List.map_cons, List.map_nil, List.mem_cons, List.not_mem_nil, or_false] at hx
    rcases hx with rfl | rfl
    · exact nbRow_it (by decide)
    · exact nbRow_it (by decide)
  have bbs : ∀ a b : Int, a.natAbs ≤ 5 → b.natAbs ≤ 5 → bb 4 [a, b] := fun a b ha hb e he => by
    simp only [List.mem_cons, List.not_mem_nil, or_false] at he
    rcases he with rfl | rfl
    · exact bits_lt (by omega)
    · exact bits_lt (by omega)
  have zr : ∀ a b : Int, a.natAbs ≤ 5 → b.natAbs ≤ 5 → R_z_times [frB 4 (rowsOf 4) 2 (unitsM 4), it [a, b]] (it [-b, a]) := fun a b ha hb => by
    obtain ⟨q, q1, q2, q3⟩ := fl4.zt (c := 4) (x := [a, b]) rfl (bbs a b ha hb) (by omega)
    have : q = [-b, a] := by
      match q, q2 with
      | [c, d], _ =>
        have h0 : c = 0 - b * 1 := q3 0
        have h1 : d = a - b * 0 := q3 1
        rw [h0, h1]
        congr 1
        · omega
        · congr 1
          omega
    rw [← this]
    exact q1
  refine ⟨4, _, rfl, .inl ⟨rfl, 4, _, rowsOf 4, 2, unitsM 4, rfl, ⟨_, rfl⟩, fl4.req, fl4.frame.2, 4, rowsOf 4, 2, unitsM 4, _, rfl, by omega, nbAll_known nbq, .inr ⟨[[1, 1], [0, 5]], rfl, by decide +kernel, by decide, .inr ⟨by decide +kernel, fun row => [-(row.getD 1 0), row.getD 0 0], fun row => decide (row = [0, 5]), fun row hr => ?_, rfl⟩⟩⟩⟩
  simp only [List.mem_cons, List.not_mem_nil, or_false] at hr
  rcases hr with rfl | rfl
  · exact ⟨zr 1 1 (by decide) (by decide), [[1, 1], [0, 5]], [-1, 1], false, rfl, by decide +kernel, rfl⟩
  · exact ⟨zr 0 5 (by decide) (by decide), [[1, 1], [0, 5]], [-5, 0], true, rfl, by decide +kernel, rfl⟩
/-- THE LAW, IN PLAIN LEAN -/
theorem law_ok (ns : List Int) : LawOk R_law_span_rows ns where
  right := fun i hi => by
    have sp3 : spotsN ns ≤ 3 := by unfold spotsN; omega
    have h0 : (diceOf ns (i : Int)).okN (2000 + 2000) := dice_ok ns (by omega) (by omega)
    obtain ⟨d1, a1, o1⟩ := right_ok (N := 2000) h0
    obtain ⟨d2, a2, _⟩ := right_ok (N := 0) (o1.less (by omega))
    exact ⟨_, _, a1, a2⟩
  w1 := ⟨_, _, _, _, w_one⟩
  w2 := ⟨_, _, _, _, w_two⟩
  w3 := ⟨_, _, _, _, w_three⟩
  w30 := ⟨_, _, _, _, _, w_thirty, by decide⟩
  six := ⟨_, _, _, i_six⟩
  bad := i_bad
end Q
end

/-! text W31 -/
section
set_option Elab.async false
set_option linter.all false
set_option maxRecDepth 100000
/-! the head's facts, put together: law keeps its promise -/
namespace Q
open PySem PySem.Spec PyProof.Rows L2
section
variable {P : Program} {w : World} {K : Fr} {mg : Str → Option Value} {base h : Heap} {C : Ct}
theorem all_ix {l : List He.Fa} (e : l.all (·.ok K) = true) (i : Nat) {f : He.Fa} (q : l[i]? = some f) : f.ok K = true := List.all_eq_true.mp e f (List.mem_of_getElem? q)
theorem scls_of {A : Addr} (e : sclsB K A = true) : SlX.SCls K A := by
  obtain ⟨a, e⟩ := He.ba e
  obtain ⟨b, e⟩ := He.ba e
  obtain ⟨c, d⟩ := He.ba e
  exact ⟨a, b, c, He.eqO_ok d⟩
theorem sisi_of {A : Addr} (e : sisiB K A = true) : SlX.SIsi K A := by
  obtain ⟨a, e⟩ := He.ba e
  obtain ⟨b, e⟩ := He.ba e
  obtain ⟨c, d⟩ := He.ba e
  exact ⟨He.eqO_ok a, He.eqO_ok b, of_decide_eq_true c, of_decide_eq_true d⟩
theorem slot_of {q : Sq} (e : slotB K q = true) : SlX.Slot1 K (cA K q.1) q.2.1 (He.ma K (cA K q.1) q.2.1) q.2.2 := by
  obtain ⟨a, e⟩ := He.ba e
  obtain ⟨b, e⟩ := He.ba e
  obtain ⟨c, e⟩ := He.ba e
  obtain ⟨d, e⟩ := He.ba e
  obtain ⟨f, g⟩ := He.ba e
  exact ⟨He.eqO_ok a, He.eqO_ok b, of_decide_eq_true c, of_decide_eq_true d, of_decide_eq_true f, of_decide_eq_true g⟩
theorem prop_of {f : Str} (e : propB K f = true) : PySem.W.findIn K (.ref (cA K 4)) f = some (some (.ref (He.ma K (cA K 4) f))) ∧ PySem.W.specialIn K (.ref (He.ma K (cA K 4) f)) "__get__" = some (some (.builtin "property.__get__")) ∧ PySem.W.takesIn K (.ref (He.ma K (cA K 4) f)) = some true ∧
    ∃ rest, PySem.W.recIn K (He.ma K (cA K 4) f) "property" = some (.ref (He5.wf K (cA K 4) "property" f) :: rest) := by
  obtain ⟨a, e⟩ := He.ba e
  obtain ⟨b, e⟩ := He.ba e
  obtain ⟨c, d⟩ := He.ba e
  refine ⟨He.eqO_ok a, He.eqO_ok b, of_decide_eq_true c, ?_⟩
  unfold He5.wf
  split at d
  · rename_i f r e
    exact ⟨r, by rw [e]⟩
  · cases d
theorem pr_of {c k : Nat} {f : Str} {sp : L2.Sp} {p g : Addr} (hs : SlX.SCls K (C.cls c)) (h1 : PySem.W.findIn K (.ref (C.cls c)) f = some (some (.ref p))) (h2 : PySem.W.specialIn K (.ref p) "__get__" = some (some (.builtin "property.__get__"))) (h3 : PySem.W.takesIn K (.ref p) = some true) (h4 : ∃ rest, PySem.W.recIn K p "property" = some (.ref g :: rest))
    (F : FnR P w K mg base CX0 k g sp) : ∀ X : Cx, X.prog = P → X.w = w → X.K = K → X.mg = mg → X.base = base → Pr X C c f k sp := fun X e1 e2 e3 e4 e5 => by
  subst e1 e2 e3 e4 e5
  exact ⟨hs, p, g, h1, h2, h3, h4, F⟩
theorem ow_of {c k : Nat} {f : Str} {sp : L2.Sp} {g : Addr} (h1 : PySem.W.findIn K (.ref (C.cls c)) f = some (some (.ref g))) (h2 : PySem.W.isFn K (.ref g) = true) (F : FnR P w K mg base CX0 k g sp) : ∀ X : Cx, X.prog = P → X.w = w → X.K = K → X.mg = mg → X.base = base → Ow X C c f k sp := fun X e1 e2 e3 e4 e5 => by
  subst e1 e2 e3 e4 e5
  exact ⟨g, h1, h2, F⟩
theorem cm_of {c k : Nat} {m : Str} {sp : L2.Sp} {mc : Value} {p g : Addr} (h1 : ClX.CRead K (C.cls c) mc) (h2 : ClX.CMet K (C.cls c) mc m p g) (F : FnR P w K mg base CX0 k g sp) : ∀ X : Cx, X.prog = P → X.w = w → X.K = K → X.mg = mg → X.base = base → Cm X C c m k sp := fun X e1 e2 e3 e4 e5 => by
  subst e1 e2 e3 e4 e5
  exact ⟨mc, p, g, h1, h2, F⟩
end
/-- the classes -/
abbrev ctK (K : Fr) : Ct := ⟨cA K, K⟩
theorem q_is_whole {h : Heap} {K : Fr} (c : SaysC h K) : ∃ fd, Fun K "is_whole" "is_whole" st_is_whole (He.ga K "is_whole") fd ∧ Binds K fd ["value"] [] := by
  obtain ⟨fd, F⟩ := c.defs 0 (dG "is_whole" st_is_whole) rfl
  exact ⟨fd, He5.fun_of F, FunD.bindsN F fun _ _ _ _ _ _ us hl => match us, hl with | [_], _ => rfl⟩
theorem q_is_integer {h : Heap} {K : Fr} (c : SaysC h K) : ∃ fd, Fun K "is_integer" "is_integer" st_is_integer (He.ga K "is_integer") fd ∧ Binds K fd ["value"] [] := by
  obtain ⟨fd, F⟩ := c.defs 1 (dG "is_integer" st_is_integer) rfl
  exact ⟨fd, He5.fun_of F, FunD.bindsN F fun _ _ _ _ _ _ us hl => match us, hl with | [_], _ => rfl⟩
theorem q_common_of {h : Heap} {K : Fr} (c : SaysC h K) : ∃ fd, Fun K "common_of" "common_of" st_common_of (He.ga K "common_of") fd ∧ Binds K fd ["one", "other"] [] := by
  obtain ⟨fd, F⟩ := c.defs 2 (dG "common_of" st_common_of) rfl
  exact ⟨fd, He5.fun_of F, FunD.bindsN F fun _ _ _ _ _ _ us hl => match us, hl with | [_, _], _ => rfl⟩
theorem q_units_list {h : Heap} {K : Fr} (c : SaysC h K) : ∃ fd, Fun K "units_list" "units_list" st_units_list (He.ga K "units_list") fd ∧ Binds K fd ["modulus"] [] := by
  obtain ⟨fd, F⟩ := c.defs 3 (dG "units_list" st_units_list) rfl
  exact ⟨fd, He5.fun_of F, FunD.bindsN F fun _ _ _ _ _ _ us hl => match us, hl with | [_], _ => rfl⟩
theorem q_powers_in {h : Heap} {K : Fr} (c : SaysC h K) : ∃ fd, Fun K "powers_in" "powers_in" st_powers_in (He.ga K "powers_in") fd ∧ Binds K fd ["number"] [] := by
  obtain ⟨fd, F⟩ := c.defs 4 (dG "powers_in" st_powers_in) rfl
  exact ⟨fd, He5.fun_of F, FunD.bindsN F fun _ _ _ _ _ _ us hl => match us, hl with | [_], _ => rfl⟩
theorem q_divisors_in {h : Heap} {K : Fr} (c : SaysC h K) : ∃ fd, Fun K "divisors_in" "divisors_in" st_divisors_in (He.ga K "divisors_in") fd ∧ Binds K fd ["number"] [] := by
  obtain ⟨fd, F⟩ := c.defs 5 (dG "divisors_in" st_divisors_in) rfl
  exact ⟨fd, He5.fun_of F, FunD.bindsN F fun _ _ _ _ _ _ us hl => match us, hl with | [_], _ => rfl⟩
theorem q_exact_quotient {h : Heap} {K : Fr} (c : SaysC h K) : ∃ fd, Fun K "exact_quotient" "exact_quotient" st_exact_quotient (He.ga K "exact_quotient") fd ∧ Binds K fd ["one", "other"] [] := by
  obtain ⟨fd, F⟩ := c.defs 6 (dG "exact_quotient" st_exact_quotient) rfl
  exact ⟨fd, He5.fun_of F, FunD.bindsN F fun _ _ _ _ _ _ us hl => match us, hl with | [_, _], _ => rfl⟩
theorem q_cyclotomic_in {h : Heap} {K : Fr} (c : SaysC h K) : ∃ fd, Fun K "cyclotomic_in" "cyclotomic_in" st_cyclotomic_in (He.ga K "cyclotomic_in") fd ∧ Binds K fd ["order"] [] := by
  obtain ⟨fd, F⟩ := c.defs 7 (dG "cyclotomic_in" st_cyclotomic_in) rfl
  exact ⟨fd, He5.fun_of F, FunD.bindsN F fun _ _ _ _ _ _ us hl => match us, hl with | [_], _ => rfl⟩
theorem q_frame_init {h : Heap} {K : Fr} (c : SaysC h K) : ∃ fd, Fun K "__init__" "Frame.__init__" st_frame_init (He.ma K (cA K 0) "__init__") fd ∧ Binds K fd ["self", "order"] [] := by
  obtain ⟨fd, F⟩ := c.defs 8 (dM 0 "__init__" "Frame.__init__" st_frame_init) rfl
  exact ⟨fd, He5.fun_of F, FunD.bindsN F fun _ _ _ _ _ _ us hl => match us, hl with | [_, _], _ => rfl⟩
theorem q_folded {h : Heap} {K : Fr} (c : SaysC h K) : ∃ fd, Fun K "folded" "Frame.folded" st_folded (He.ma K (cA K 0) "folded") fd ∧ Binds K fd ["self", "row"] [] := by
  obtain ⟨fd, F⟩ := c.defs 9 (dM 0 "folded" "Frame.folded" st_folded) rfl
  exact ⟨fd, He5.fun_of F, FunD.bindsN F fun _ _ _ _ _ _ us hl => match us, hl with | [_, _], _ => rfl⟩
theorem q_product {h : Heap} {K : Fr} (c : SaysC h K) : ∃ fd, Fun K "product" "Frame.product" st_product (He.ma K (cA K 0) "product") fd ∧ Binds K fd ["self", "one", "other"] [] := by
  obtain ⟨fd, F⟩ := c.defs 10 (dM 0 "product" "Frame.product" st_product) rfl
  exact ⟨fd, He5.fun_of F, FunD.bindsN F fun _ _ _ _ _ _ us hl => match us, hl with | [_, _, _], _ => rfl⟩
theorem q_power_row {h : Heap} {K : Fr} (c : SaysC h K) : ∃ fd, Fun K "power_row" "Frame.power_row" st_power_row (He.ma K (cA K 0) "power_row") fd ∧ Binds K fd ["self", "many"] [] := by
  obtain ⟨fd, F⟩ := c.defs 11 (dM 0 "power_row" "Frame.power_row" st_power_row) rfl
  exact ⟨fd, He5.fun_of F, FunD.bindsN F fun _ _ _ _ _ _ us hl => match us, hl with | [_, _], _ => rfl⟩
theorem q_whole_row {h : Heap} {K : Fr} (c : SaysC h K) : ∃ fd, Fun K "whole_row" "Frame.whole_row" st_whole_row (He.ma K (cA K 0) "whole_row") fd ∧ Binds K fd ["self", "number"] [] := by
  obtain ⟨fd, F⟩ := c.defs 12 (dM 0 "whole_row" "Frame.whole_row" st_whole_row) rfl
  exact ⟨fd, He5.fun_of F, FunD.bindsN F fun _ _ _ _ _ _ us hl => match us, hl with | [_, _], _ => rfl⟩
theorem q_z_times {h : Heap} {K : Fr} (c : SaysC h K) : ∃ fd, Fun K "z_times" "z_times" st_z_times (He.ga K "z_times") fd ∧ Binds K fd ["frame", "entries"] [] := by
  obtain ⟨fd, F⟩ := c.defs 13 (dG "z_times" st_z_times) rfl
  exact ⟨fd, He5.fun_of F, FunD.bindsN F fun _ _ _ _ _ _ us hl => match us, hl with | [_, _], _ => rfl⟩
theorem q_combined {h : Heap} {K : Fr} (c : SaysC h K) : ∃ fd, Fun K "combined" "combined" st_combined (He.ga K "combined") fd ∧ Binds K fd ["one", "other", "first", "last"] [] := by
  obtain ⟨fd, F⟩ := c.defs 14 (dG "combined" st_combined) rfl
  exact ⟨fd, He5.fun_of F, FunD.bindsN F fun _ _ _ _ _ _ us hl => match us, hl with | [_, _, _, _], _ => rfl⟩
theorem q_is_in_rows {h : Heap} {K : Fr} (c : SaysC h K) : ∃ fd, Fun K "is_in_rows" "is_in_rows" st_is_in_rows (He.ga K "is_in_rows") fd ∧ Binds K fd ["rows", "entries"] [] := by
  obtain ⟨fd, F⟩ := c.defs 15 (dG "is_in_rows" st_is_in_rows) rfl
  exact ⟨fd, He5.fun_of F, FunD.bindsN F fun _ _ _ _ _ _ us hl => match us, hl with | [_, _], _ => rfl⟩
theorem q_are_least {h : Heap} {K : Fr} (c : SaysC h K) : ∃ fd, Fun K "are_least" "are_least" st_are_least (He.ga K "are_least") fd ∧ Binds K fd ["rows", "size"] [] := by
  obtain ⟨fd, F⟩ := c.defs 16 (dG "are_least" st_are_least) rfl
  exact ⟨fd, He5.fun_of F, FunD.bindsN F fun _ _ _ _ _ _ us hl => match us, hl with | [_, _], _ => rfl⟩
theorem q_are_told_rows {h : Heap} {K : Fr} (c : SaysC h K) : ∃ fd, Fun K "are_told_rows" "are_told_rows" st_are_told_rows (He.ga K "are_told_rows") fd ∧ Binds K fd ["size", "value"] [] := by
  obtain ⟨fd, F⟩ := c.defs 17 (dG "are_told_rows" st_are_told_rows) rfl
  exact ⟨fd, He5.fun_of F, FunD.bindsN F fun _ _ _ _ _ _ us hl => match us, hl with | [_, _], _ => rfl⟩
theorem q_are_ideal_rows {h : Heap} {K : Fr} (c : SaysC h K) : ∃ fd, Fun K "are_ideal_rows" "are_ideal_rows" st_are_ideal_rows (He.ga K "are_ideal_rows") fd ∧ Binds K fd ["frame", "value"] [] := by
  obtain ⟨fd, F⟩ := c.defs 18 (dG "are_ideal_rows" st_are_ideal_rows) rfl
  exact ⟨fd, He5.fun_of F, FunD.bindsN F fun _ _ _ _ _ _ us hl => match us, hl with | [_, _], _ => rfl⟩
theorem q_is_entries_of {h : Heap} {K : Fr} (c : SaysC h K) : ∃ fd, Fun K "is_entries_of" "is_entries_of" st_is_entries_of (He.ga K "is_entries_of") fd ∧ Binds K fd ["frame", "value"] [] := by
  obtain ⟨fd, F⟩ := c.defs 19 (dG "is_entries_of" st_is_entries_of) rfl
  exact ⟨fd, He5.fun_of F, FunD.bindsN F fun _ _ _ _ _ _ us hl => match us, hl with | [_, _], _ => rfl⟩
theorem q_require_order {h : Heap} {K : Fr} (c : SaysC h K) : ∃ fd, Fun K "require_order" "require_order" st_require_order (He.ga K "require_order") fd ∧ Binds K fd ["value"] [] := by
  obtain ⟨fd, F⟩ := c.defs 20 (dG "require_order" st_require_order) rfl
  exact ⟨fd, He5.fun_of F, FunD.bindsN F fun _ _ _ _ _ _ us hl => match us, hl with | [_], _ => rfl⟩
theorem q_require_ideal_order {h : Heap} {K : Fr} (c : SaysC h K) : ∃ fd, Fun K "require_ideal_order" "require_ideal_order" st_require_ideal_order (He.ga K "require_ideal_order") fd ∧ Binds K fd ["value"] [] := by
  obtain ⟨fd, F⟩ := c.defs 21 (dG "require_ideal_order" st_require_ideal_order) rfl
  exact ⟨fd, He5.fun_of F, FunD.bindsN F fun _ _ _ _ _ _ us hl => match us, hl with | [_], _ => rfl⟩
theorem q_kept {h : Heap} {K : Fr} (c : SaysC h K) : ∃ fd, Fun K "__init__" "Kept.__init__" st_kept (He.ma K (cA K 1) "__init__") fd ∧ Binds K fd ["self", "frame", "entries"] [] := by
  obtain ⟨fd, F⟩ := c.defs 22 (dM 1 "__init__" "Kept.__init__" st_kept) rfl
  exact ⟨fd, He5.fun_of F, FunD.bindsN F fun _ _ _ _ _ _ us hl => match us, hl with | [_, _, _], _ => rfl⟩
theorem q_made {h : Heap} {K : Fr} (c : SaysC h K) : ∃ fd, Fun K "__init__" "Made.__init__" st_made (He.ma K (cA K 3) "__init__") fd ∧ Binds K fd ["self", "frame", "rows"] [] := by
  obtain ⟨fd, F⟩ := c.defs 23 (dM 3 "__init__" "Made.__init__" st_made) rfl
  exact ⟨fd, He5.fun_of F, FunD.bindsN F fun _ _ _ _ _ _ us hl => match us, hl with | [_, _, _], _ => rfl⟩
theorem q_turn_init {h : Heap} {K : Fr} (c : SaysC h K) : ∃ fd, Fun K "__init__" "Turn.__init__" st_turn_init (He.ma K (cA K 2) "__init__") fd ∧ Binds K fd ["self", "order", "entries"] [] := by
  obtain ⟨fd, F⟩ := c.defs 24 (dM 2 "__init__" "Turn.__init__" st_turn_init) rfl
  exact ⟨fd, He5.fun_of F, FunD.bindsN F fun _ _ _ _ _ _ us hl => match us, hl with | [_, _, _], _ => rfl⟩
theorem q_turn_with {h : Heap} {K : Fr} (c : SaysC h K) : ∃ fd, Fun K "turn_with" "turn_with" st_turn_with (He.ga K "turn_with") fd ∧ Binds K fd ["frame", "entries"] [] := by
  obtain ⟨fd, F⟩ := c.defs 25 (dG "turn_with" st_turn_with) rfl
  exact ⟨fd, He5.fun_of F, FunD.bindsN F fun _ _ _ _ _ _ us hl => match us, hl with | [_, _], _ => rfl⟩
theorem q_turn_whole {h : Heap} {K : Fr} (c : SaysC h K) : ∃ fd, Fun K "whole" "Turn.whole" st_turn_whole (He5.wf K (cA K 2) "classmethod" "whole") fd ∧ Binds K fd ["cls", "order", "integer"] [] := by
  obtain ⟨fd, F⟩ := c.defs 26 (dW 2 "classmethod" "whole" "Turn.whole" st_turn_whole) rfl
  exact ⟨fd, He5.fun_of F, FunD.bindsN F fun _ _ _ _ _ _ us hl => match us, hl with | [_, _, _], _ => rfl⟩
theorem q_ideal_init {h : Heap} {K : Fr} (c : SaysC h K) : ∃ fd, Fun K "__init__" "Ideal.__init__" st_ideal_init (He.ma K (cA K 4) "__init__") fd ∧ Binds K fd ["self", "order", "rows"] [] := by
  obtain ⟨fd, F⟩ := c.defs 27 (dM 4 "__init__" "Ideal.__init__" st_ideal_init) rfl
  exact ⟨fd, He5.fun_of F, FunD.bindsN F fun _ _ _ _ _ _ us hl => match us, hl with | [_, _, _], _ => rfl⟩
theorem q_made_ideal {h : Heap} {K : Fr} (c : SaysC h K) : ∃ fd, Fun K "made_ideal" "made_ideal" st_made_ideal (He.ga K "made_ideal") fd ∧ Binds K fd ["frame", "rows"] [] := by
  obtain ⟨fd, F⟩ := c.defs 28 (dG "made_ideal" st_made_ideal) rfl
  exact ⟨fd, He5.fun_of F, FunD.bindsN F fun _ _ _ _ _ _ us hl => match us, hl with | [_, _], _ => rfl⟩
theorem q_whole_in {h : Heap} {K : Fr} (c : SaysC h K) : ∃ fd, Fun K "whole_in" "whole_in" st_whole_in (He.ga K "whole_in") fd ∧ Binds K fd ["frame"] [] := by
  obtain ⟨fd, F⟩ := c.defs 29 (dG "whole_in" st_whole_in) rfl
  exact ⟨fd, He5.fun_of F, FunD.bindsN F fun _ _ _ _ _ _ us hl => match us, hl with | [_], _ => rfl⟩
theorem q_whole_ideal {h : Heap} {K : Fr} (c : SaysC h K) : ∃ fd, Fun K "whole_ideal" "whole_ideal" st_whole_ideal (He.ga K "whole_ideal") fd ∧ Binds K fd ["order"] [] := by
  obtain ⟨fd, F⟩ := c.defs 30 (dG "whole_ideal" st_whole_ideal) rfl
  exact ⟨fd, He5.fun_of F, FunD.bindsN F fun _ _ _ _ _ _ us hl => match us, hl with | [_], _ => rfl⟩
theorem q_id_order {h : Heap} {K : Fr} (c : SaysC h K) : ∃ fd, Fun K "order" "Ideal.order" st_id_order (He5.wf K (cA K 4) "property" "order") fd ∧ Binds K fd ["self"] [] := by
  obtain ⟨fd, F⟩ := c.defs 31 (dW 4 "property" "order" "Ideal.order" st_id_order) rfl
  exact ⟨fd, He5.fun_of F, FunD.bindsN F fun _ _ _ _ _ _ us hl => match us, hl with | [_], _ => rfl⟩
theorem q_id_rows {h : Heap} {K : Fr} (c : SaysC h K) : ∃ fd, Fun K "rows" "Ideal.rows" st_id_rows (He5.wf K (cA K 4) "property" "rows") fd ∧ Binds K fd ["self"] [] := by
  obtain ⟨fd, F⟩ := c.defs 32 (dW 4 "property" "rows" "Ideal.rows" st_id_rows) rfl
  exact ⟨fd, He5.fun_of F, FunD.bindsN F fun _ _ _ _ _ _ us hl => match us, hl with | [_], _ => rfl⟩
theorem q_id_size {h : Heap} {K : Fr} (c : SaysC h K) : ∃ fd, Fun K "size" "Ideal.size" st_id_size (He5.wf K (cA K 4) "property" "size") fd ∧ Binds K fd ["self"] [] := by
  obtain ⟨fd, F⟩ := c.defs 33 (dW 4 "property" "size" "Ideal.size" st_id_size) rfl
  exact ⟨fd, He5.fun_of F, FunD.bindsN F fun _ _ _ _ _ _ us hl => match us, hl with | [_], _ => rfl⟩
theorem q_id_len {h : Heap} {K : Fr} (c : SaysC h K) : ∃ fd, Fun K "__len__" "Ideal.__len__" st_id_len (He.ma K (cA K 4) "__len__") fd ∧ Binds K fd ["self"] [] := by
  obtain ⟨fd, F⟩ := c.defs 34 (dM 4 "__len__" "Ideal.__len__" st_id_len) rfl
  exact ⟨fd, He5.fun_of F, FunD.bindsN F fun _ _ _ _ _ _ us hl => match us, hl with | [_], _ => rfl⟩
theorem q_id_str {h : Heap} {K : Fr} (c : SaysC h K) : ∃ fd, Fun K "__str__" "Ideal.__str__" st_id_str (He.ma K (cA K 4) "__str__") fd ∧ Binds K fd ["self"] [] := by
  obtain ⟨fd, F⟩ := c.defs 35 (dM 4 "__str__" "Ideal.__str__" st_id_str) rfl
  exact ⟨fd, He5.fun_of F, FunD.bindsN F fun _ _ _ _ _ _ us hl => match us, hl with | [_], _ => rfl⟩
theorem q_id_contains {h : Heap} {K : Fr} (c : SaysC h K) : ∃ fd, Fun K "__contains__" "Ideal.__contains__" st_id_contains (He.ma K (cA K 4) "__contains__") fd ∧ Binds K fd ["self", "value"] [] := by
  obtain ⟨fd, F⟩ := c.defs 36 (dM 4 "__contains__" "Ideal.__contains__" st_id_contains) rfl
  exact ⟨fd, He5.fun_of F, FunD.bindsN F fun _ _ _ _ _ _ us hl => match us, hl with | [_, _], _ => rfl⟩
theorem q_id_eq {h : Heap} {K : Fr} (c : SaysC h K) : ∃ fd, Fun K "__eq__" "Ideal.__eq__" st_id_eq (He.ma K (cA K 4) "__eq__") fd ∧ Binds K fd ["self", "other"] [] := by
  obtain ⟨fd, F⟩ := c.defs 37 (dM 4 "__eq__" "Ideal.__eq__" st_id_eq) rfl
  exact ⟨fd, He5.fun_of F, FunD.bindsN F fun _ _ _ _ _ _ us hl => match us, hl with | [_, _], _ => rfl⟩
theorem q_law_divisors {h : Heap} {K : Fr} (c : SaysC h K) : ∃ fd, Fun K "_law_divisors" "_law_divisors" st_law_divisors (He.ga K "_law_divisors") fd ∧ Binds K fd ["_law_number"] [] := by
  obtain ⟨fd, F⟩ := c.defs 38 (dG "_law_divisors" st_law_divisors) rfl
  exact ⟨fd, He5.fun_of F, FunD.bindsN F fun _ _ _ _ _ _ us hl => match us, hl with | [_], _ => rfl⟩
theorem q_law_poly_over {h : Heap} {K : Fr} (c : SaysC h K) : ∃ fd, Fun K "_law_poly_over" "_law_poly_over" st_law_poly_over (He.ga K "_law_poly_over") fd ∧ Binds K fd ["_law_one", "_law_other"] [] := by
  obtain ⟨fd, F⟩ := c.defs 39 (dG "_law_poly_over" st_law_poly_over) rfl
  exact ⟨fd, He5.fun_of F, FunD.bindsN F fun _ _ _ _ _ _ us hl => match us, hl with | [_, _], _ => rfl⟩
theorem q_law_cyclotomic {h : Heap} {K : Fr} (c : SaysC h K) : ∃ fd, Fun K "_law_cyclotomic" "_law_cyclotomic" st_law_cyclotomic (He.ga K "_law_cyclotomic") fd ∧ Binds K fd ["_law_order"] [] := by
  obtain ⟨fd, F⟩ := c.defs 40 (dG "_law_cyclotomic" st_law_cyclotomic) rfl
  exact ⟨fd, He5.fun_of F, FunD.bindsN F fun _ _ _ _ _ _ us hl => match us, hl with | [_], _ => rfl⟩
theorem q_law_turn_cut {h : Heap} {K : Fr} (c : SaysC h K) : ∃ fd, Fun K "_law_turn_cut" "_law_turn_cut" st_law_turn_cut (He.ga K "_law_turn_cut") fd ∧ Binds K fd ["_law_order", "_law_row"] [] := by
  obtain ⟨fd, F⟩ := c.defs 41 (dG "_law_turn_cut" st_law_turn_cut) rfl
  exact ⟨fd, He5.fun_of F, FunD.bindsN F fun _ _ _ _ _ _ us hl => match us, hl with | [_, _], _ => rfl⟩
theorem q_law_turn_times {h : Heap} {K : Fr} (c : SaysC h K) : ∃ fd, Fun K "_law_turn_times" "_law_turn_times" st_law_turn_times (He.ga K "_law_turn_times") fd ∧ Binds K fd ["_law_order", "_law_one", "_law_other"] [] := by
  obtain ⟨fd, F⟩ := c.defs 42 (dG "_law_turn_times" st_law_turn_times) rfl
  exact ⟨fd, He5.fun_of F, FunD.bindsN F fun _ _ _ _ _ _ us hl => match us, hl with | [_, _, _], _ => rfl⟩
theorem q_law_turn_power {h : Heap} {K : Fr} (c : SaysC h K) : ∃ fd, Fun K "_law_turn_power" "_law_turn_power" st_law_turn_power (He.ga K "_law_turn_power") fd ∧ Binds K fd ["_law_order", "_law_many"] [] := by
  obtain ⟨fd, F⟩ := c.defs 43 (dG "_law_turn_power" st_law_turn_power) rfl
  exact ⟨fd, He5.fun_of F, FunD.bindsN F fun _ _ _ _ _ _ us hl => match us, hl with | [_, _], _ => rfl⟩
theorem q_law_turn_whole {h : Heap} {K : Fr} (c : SaysC h K) : ∃ fd, Fun K "_law_turn_whole" "_law_turn_whole" st_law_turn_whole (He.ga K "_law_turn_whole") fd ∧ Binds K fd ["_law_order", "_law_number"] [] := by
  obtain ⟨fd, F⟩ := c.defs 44 (dG "_law_turn_whole" st_law_turn_whole) rfl
  exact ⟨fd, He5.fun_of F, FunD.bindsN F fun _ _ _ _ _ _ us hl => match us, hl with | [_, _], _ => rfl⟩
theorem q_law_row_less {h : Heap} {K : Fr} (c : SaysC h K) : ∃ fd, Fun K "_law_row_less" "_law_row_less" st_law_row_less (He.ga K "_law_row_less") fd ∧ Binds K fd ["_law_one", "_law_many", "_law_other"] [] := by
  obtain ⟨fd, F⟩ := c.defs 45 (dG "_law_row_less" st_law_row_less) rfl
  exact ⟨fd, He5.fun_of F, FunD.bindsN F fun _ _ _ _ _ _ us hl => match us, hl with | [_, _, _], _ => rfl⟩
theorem q_law_is_in_rows {h : Heap} {K : Fr} (c : SaysC h K) : ∃ fd, Fun K "_law_is_in_rows" "_law_is_in_rows" st_law_is_in_rows (He.ga K "_law_is_in_rows") fd ∧ Binds K fd ["_law_rows", "_law_x"] [] := by
  obtain ⟨fd, F⟩ := c.defs 46 (dG "_law_is_in_rows" st_law_is_in_rows) rfl
  exact ⟨fd, He5.fun_of F, FunD.bindsN F fun _ _ _ _ _ _ us hl => match us, hl with | [_, _], _ => rfl⟩
theorem q_law_ideal_size {h : Heap} {K : Fr} (c : SaysC h K) : ∃ fd, Fun K "_law_ideal_size" "_law_ideal_size" st_law_ideal_size (He.ga K "_law_ideal_size") fd ∧ Binds K fd ["_law_rows"] [] := by
  obtain ⟨fd, F⟩ := c.defs 47 (dG "_law_ideal_size" st_law_ideal_size) rfl
  exact ⟨fd, He5.fun_of F, FunD.bindsN F fun _ _ _ _ _ _ us hl => match us, hl with | [_], _ => rfl⟩
theorem q_law_roll {h : Heap} {K : Fr} (c : SaysC h K) : ∃ fd, Fun K "_law_roll" "_law_roll" st_law_roll (He.ga K "_law_roll") fd ∧ Binds K fd ["_law_dice_here", "_law_total"] [] := by
  obtain ⟨fd, F⟩ := c.defs 48 (dG "_law_roll" st_law_roll) rfl
  exact ⟨fd, He5.fun_of F, FunD.bindsN F fun _ _ _ _ _ _ us hl => match us, hl with | [_, _], _ => rfl⟩
theorem q_law_pick {h : Heap} {K : Fr} (c : SaysC h K) : ∃ fd, Fun K "_law_pick" "_law_pick" st_law_pick (He.ga K "_law_pick") fd ∧ Binds K fd ["_law_dice_here", "_law_items"] [] := by
  obtain ⟨fd, F⟩ := c.defs 49 (dG "_law_pick" st_law_pick) rfl
  exact ⟨fd, He5.fun_of F, FunD.bindsN F fun _ _ _ _ _ _ us hl => match us, hl with | [_, _], _ => rfl⟩
theorem q_law_small_order {h : Heap} {K : Fr} (c : SaysC h K) : ∃ fd, Fun K "_law_small_order" "_law_small_order" st_law_small_order (He.ga K "_law_small_order") fd ∧ Binds K fd ["_law_dice_here"] [] := by
  obtain ⟨fd, F⟩ := c.defs 50 (dG "_law_small_order" st_law_small_order) rfl
  exact ⟨fd, He5.fun_of F, FunD.bindsN F fun _ _ _ _ _ _ us hl => match us, hl with | [_], _ => rfl⟩
theorem q_law_turn_drawn {h : Heap} {K : Fr} (c : SaysC h K) : ∃ fd, Fun K "_law_turn_drawn" "_law_turn_drawn" st_law_turn_drawn (He.ga K "_law_turn_drawn") fd ∧ Binds K fd ["_law_dice_here", "_law_order", "_law_most"] [] := by
  obtain ⟨fd, F⟩ := c.defs 51 (dG "_law_turn_drawn" st_law_turn_drawn) rfl
  exact ⟨fd, He5.fun_of F, FunD.bindsN F fun _ _ _ _ _ _ us hl => match us, hl with | [_, _, _], _ => rfl⟩
theorem q_law_turn_other {h : Heap} {K : Fr} (c : SaysC h K) : ∃ fd, Fun K "_law_turn_other" "_law_turn_other" st_law_turn_other (He.ga K "_law_turn_other") fd ∧ Binds K fd ["_law_dice_here", "_law_order", "_law_most"] [] := by
  obtain ⟨fd, F⟩ := c.defs 52 (dG "_law_turn_other" st_law_turn_other) rfl
  exact ⟨fd, He5.fun_of F, FunD.bindsN F fun _ _ _ _ _ _ us hl => match us, hl with | [_, _, _], _ => rfl⟩
theorem q_law_dice {h : Heap} {K : Fr} (c : SaysC h K) : ∃ fd, Fun K "_law_dice" "_law_dice" st_law_dice (He.ga K "_law_dice") fd ∧ Binds K fd ["_law_script", "_law_spot"] [] := by
  obtain ⟨fd, F⟩ := c.defs 53 (dG "_law_dice" st_law_dice) rfl
  exact ⟨fd, He5.fun_of F, FunD.bindsN F fun _ _ _ _ _ _ us hl => match us, hl with | [_, _], _ => rfl⟩
theorem q_law_are_ideal_rows {h : Heap} {K : Fr} (c : SaysC h K) : ∃ fd, Fun K "_law_are_ideal_rows" "_law_are_ideal_rows" st_law_are_ideal_rows (He.ga K "_law_are_ideal_rows") fd ∧ Binds K fd ["_law_order", "_law_value"] [] := by
  obtain ⟨fd, F⟩ := c.defs 54 (dG "_law_are_ideal_rows" st_law_are_ideal_rows) rfl
  exact ⟨fd, He5.fun_of F, FunD.bindsN F fun _ _ _ _ _ _ us hl => match us, hl with | [_, _], _ => rfl⟩
theorem q_law_near {h : Heap} {K : Fr} (c : SaysC h K) : ∃ fd, Fun K "_law_near" "_law_near" st_law_near (He.ga K "_law_near") fd ∧ Binds K fd ["_law_dice_here", "_law_rows"] [] := by
  obtain ⟨fd, F⟩ := c.defs 55 (dG "_law_near" st_law_near) rfl
  exact ⟨fd, He5.fun_of F, FunD.bindsN F fun _ _ _ _ _ _ us hl => match us, hl with | [_, _], _ => rfl⟩
theorem q_law_ideal_rows {h : Heap} {K : Fr} (c : SaysC h K) : ∃ fd, Fun K "_law_ideal_rows" "_law_ideal_rows" st_law_ideal_rows (He.ga K "_law_ideal_rows") fd ∧ Binds K fd ["_law_order", "_law_members"] [] := by
  obtain ⟨fd, F⟩ := c.defs 56 (dG "_law_ideal_rows" st_law_ideal_rows) rfl
  exact ⟨fd, He5.fun_of F, FunD.bindsN F fun _ _ _ _ _ _ us hl => match us, hl with | [_, _], _ => rfl⟩
theorem q_law_ideal_drawn {h : Heap} {K : Fr} (c : SaysC h K) : ∃ fd, Fun K "_law_ideal_drawn" "_law_ideal_drawn" st_law_ideal_drawn (He.ga K "_law_ideal_drawn") fd ∧ Binds K fd ["_law_dice_here", "_law_order"] [] := by
  obtain ⟨fd, F⟩ := c.defs 57 (dG "_law_ideal_drawn" st_law_ideal_drawn) rfl
  exact ⟨fd, He5.fun_of F, FunD.bindsN F fun _ _ _ _ _ _ us hl => match us, hl with | [_, _], _ => rfl⟩
theorem q_law_span_rows {h : Heap} {K : Fr} (c : SaysC h K) : ∃ fd, Fun K "_law_span_rows" "_law_span_rows" st_law_span_rows (He.ga K "_law_span_rows") fd ∧ Binds K fd ["_law_rows", "_law_size"] [] := by
  obtain ⟨fd, F⟩ := c.defs 58 (dG "_law_span_rows" st_law_span_rows) rfl
  exact ⟨fd, He5.fun_of F, FunD.bindsN F fun _ _ _ _ _ _ us hl => match us, hl with | [_, _], _ => rfl⟩
theorem q_law_made_or_none {h : Heap} {K : Fr} (c : SaysC h K) : ∃ fd, Fun K "_law_made_or_none" "_law_made_or_none" st_law_made_or_none (He.ga K "_law_made_or_none") fd ∧ Binds K fd ["_law_order", "_law_value"] [] := by
  obtain ⟨fd, F⟩ := c.defs 59 (dG "_law_made_or_none" st_law_made_or_none) rfl
  exact ⟨fd, He5.fun_of F, FunD.bindsN F fun _ _ _ _ _ _ us hl => match us, hl with | [_, _], _ => rfl⟩
theorem q_id_iter {h : Heap} {K : Fr} (c : SaysC h K) : ∃ fd, Fun K "__iter__" "Ideal.__iter__" st_id_iter (He.ma K (cA K 4) "__iter__") fd ∧ Binds K fd ["self"] [] := by
  obtain ⟨fd, F⟩ := c.defs 60 (dM 4 "__iter__" "Ideal.__iter__" st_id_iter) rfl
  exact ⟨fd, He5.fun_of F, FunD.bindsN F fun _ _ _ _ _ _ us hl => match us, hl with | [_], _ => rfl⟩
theorem q_law_right {h : Heap} {K : Fr} (c : SaysC h K) : ∃ fd, Fun K "_law_right" "_law_right" st_law_right (He.ga K "_law_right") fd ∧ Binds K fd ["_law_dice_here"] [] := by
  obtain ⟨fd, F⟩ := c.defs 61 (dG "_law_right" st_law_right) rfl
  exact ⟨fd, He5.fun_of F, FunD.bindsN F fun _ _ _ _ _ _ us hl => match us, hl with | [_], _ => rfl⟩
theorem q_law {h : Heap} {K : Fr} (c : SaysC h K) : ∃ fd, Fun K "law" "law" st_law (He.ga K "law") fd ∧ ∀ (s : Shared) (u : Value), BindsTo s fd ⟨[u], []⟩ [(("_law_script" : Str), u)] := by
  obtain ⟨fd, F⟩ := c.defs 62 (dG "law" st_law) rfl
  exact ⟨fd, He5.fun_of F, fun s v => FunD.bindsA (ps := ["_law_script"]) F (fun _ _ _ _ _ _ us hl => match us, hl with | [_], _ => rfl) s [v] rfl⟩
theorem law_fact {h : Heap} {K : Fr} {mg : Str → Option Value} {w : World} {f : Addr} (X : K.In h) (N : h.Ns mainGlobals mg) (hfa : mg ("law" : Str) = some (.ref f)) (c : SaysC h K) : LamX.LawAtS PySem.Challenge.rw_carryturns_k74_whole_ideals_told w K CX0 12 63 "_law_script" mg f h := by
  have a0 := c.ex 0 (faF.all (·.ok K)) rfl
  have a1 := c.ex 1 (faG.all (·.ok K)) rfl
  have a2 := c.ex 2 (faI.all (·.ok K)) rfl
  have a3 := c.ex 3 (faC.all (·.ok K)) rfl
  have a4 := c.ex 4 (faM.all (·.ok K)) rfl
  have a5 := c.ex 5 ((List.range 5).all fun c => sclsB K (cA K c)) rfl
  have a6 := c.ex 6 ((List.range 5).all fun c => sisiB K (cA K c)) rfl
  have a7 := c.ex 7 (slL.all (slotB K)) rfl
  have a8 := c.ex 8 (propB K "order") rfl
  have a9 := c.ex 9 (propB K "rows") rfl
  have a10 := c.ex 10 (propB K "size") rfl
  have a11 := c.ex 11 (cmB K) rfl
  have a12 := c.ex 12 (owB K "__str__") rfl
  have a13 := c.ex 13 (owB K "__len__") rfl
  have a14 := c.ex 14 (owB K "__iter__") rfl
  have a15 := c.ex 15 (owB K "__eq__") rfl
  have a16 := c.ex 16 (owB K "__contains__") rfl
  have a17 := c.ex 17 (idxB K) rfl
  have a18 := c.ex 18 (kitsB K) rfl
  have T : Bi mg := ⟨He.free_ok X N (all_ix a0 0 rfl), He.free_ok X N (all_ix a0 1 rfl), He.free_ok X N (all_ix a0 2 rfl), He.free_ok X N (all_ix a0 3 rfl), He.free_ok X N (all_ix a0 4 rfl), He.free_ok X N (all_ix a0 5 rfl), He.free_ok X N (all_ix a0 6 rfl), He.free_ok X N (all_ix a0 7 rfl), He.free_ok X N (all_ix a0 8 rfl), He.free_ok X N (all_ix a0 9 rfl), He.free_ok X N (all_ix a0 10 rfl), He.free_ok X N (all_ix a0 11 rfl), He.free_ok X N (all_ix a0 12 rfl), He.free_ok X N (all_ix a0 13 rfl), He.free_ok X N (all_ix a0 14 rfl), He.free_ok X N (all_ix a0 15 rfl), He.free_ok X N (all_ix a0 16 rfl), He.int_ok X N (all_ix a2 0 rfl), He.int_ok X N (all_ix a2 1 rfl), He.int_ok X N (all_ix a2 2 rfl), He.int_ok X N (all_ix a2 3 rfl)⟩
  have gl : ∀ (i : Nat) {x : Str}, faG[i]? = some (.glo x) → mg x = some (.ref (He.ga K x)) := fun i x e => He.glo_ok X N (all_ix a1 i e)
  have gc : ∀ (i : Nat) {x : Str}, faC[i]? = some (.glo x) → mg x = some (.ref (He.ga K x)) := fun i x e => He.glo_ok X N (all_ix a3 i e)
  have sc : ∀ c, c < 5 → SlX.SCls K (cA K c) := fun c hc => scls_of (List.all_eq_true.mp a5 c (List.mem_range.mpr hc))
  obtain ⟨k1, k2⟩ := He.ba a18
  have G : CF K mg (ctK K) := ⟨gc 1 rfl, gc 2 rfl, gc 3 rfl, gc 4 rfl, fun c hc => ⟨sc c hc, sisi_of (List.all_eq_true.mp a6 c (List.mem_range.mpr hc))⟩, fun t ht c hc => of_decide_eq_true (List.all_eq_true.mp (List.all_eq_true.mp k1 t ht) c (List.mem_range.mpr hc)), fun c d hc hd => of_decide_eq_true (List.all_eq_true.mp (List.all_eq_true.mp k2 c (List.mem_range.mpr hc)) d (List.mem_range.mpr hd))⟩
  obtain ⟨x1, x2, x3, x4⟩ := He.exc_ok (all_ix a4 9 rfl)
  have GX : Xc K mg "InvalidIdeal" ((ctK K).cls 5) := ⟨x1, gc 5 rfl, x2, x3, x4, He.exm_ok (all_ix a4 10 rfl)⟩
  have sl : ∀ (i : Nat) {q : Sq}, slL[i]? = some q → SlX.Slot1 K (cA K q.1) q.2.1 (He.ma K (cA K q.1) q.2.1) q.2.2 := fun i q e => slot_of (List.all_eq_true.mp a7 q (List.mem_of_getElem? e))
  have S_0_0 : Sf K (ctK K) 0 "own_order" 0 := ⟨sc 0 (by omega), _, sl 0 rfl⟩
  have S_0_1 : Sf K (ctK K) 0 "own_rows" 1 := ⟨sc 0 (by omega), _, sl 1 rfl⟩
  have S_0_2 : Sf K (ctK K) 0 "own_size" 2 := ⟨sc 0 (by omega), _, sl 2 rfl⟩
  have S_0_3 : Sf K (ctK K) 0 "own_units" 3 := ⟨sc 0 (by omega), _, sl 3 rfl⟩
  have S_1_0 : Sf K (ctK K) 1 "own_entries" 0 := ⟨sc 1 (by omega), _, sl 4 rfl⟩
  have S_1_1 : Sf K (ctK K) 1 "own_frame" 1 := ⟨sc 1 (by omega), _, sl 5 rfl⟩
  have S_2_0 : Sf K (ctK K) 2 "own_entries" 0 := ⟨sc 2 (by omega), _, sl 6 rfl⟩
  have S_2_1 : Sf K (ctK K) 2 "own_frame" 1 := ⟨sc 2 (by omega), _, sl 7 rfl⟩
  have S_2_2 : Sf K (ctK K) 2 "own_order" 2 := ⟨sc 2 (by omega), _, sl 8 rfl⟩
  have S_3_0 : Sf K (ctK K) 3 "own_frame" 0 := ⟨sc 3 (by omega), _, sl 9 rfl⟩
  have S_3_1 : Sf K (ctK K) 3 "own_rows" 1 := ⟨sc 3 (by omega), _, sl 10 rfl⟩
  have S_4_0 : Sf K (ctK K) 4 "own_frame" 0 := ⟨sc 4 (by omega), _, sl 11 rfl⟩
  have S_4_1 : Sf K (ctK K) 4 "own_order" 1 := ⟨sc 4 (by omega), _, sl 12 rfl⟩
  have S_4_2 : Sf K (ctK K) 4 "own_rows" 2 := ⟨sc 4 (by omega), _, sl 13 rfl⟩
  have S_4_3 : Sf K (ctK K) 4 "own_size" 3 := ⟨sc 4 (by omega), _, sl 14 rfl⟩
  have S_4_4 : Sf K (ctK K) 4 "own_text" 4 := ⟨sc 4 (by omega), _, sl 15 rfl⟩
  obtain ⟨fL, F_law, b_law⟩ := q_law c
  have eL := hfa.symm.trans (gl 44 rfl)
  cases eL
  obtain ⟨fd_law_span_rows, F_law_span_rows, b_law_span_rows⟩ := q_law_span_rows c
  have hcd : fd_law_span_rows.code = .ref (He.cT K ("_law_span_rows", none)).1 := by
    obtain ⟨oc, od, kV, doc, pm, an, cdv, ct, osl, e, lk, hc⟩ := F_law_span_rows.ex
    obtain ⟨c0, rfl⟩ := He.codeIn_ref hc
    rw [e] at lk ⊢
    rw [show (He.cT K ("_law_span_rows", none)).1 = c0 from He.codeOf_eq (p := (("_law_span_rows" : Str), none)) lk rfl]
  refine ⟨fL, [He.cT K ("_law_span_rows", none)], spRT (ctK K) [((He.cT K ("_law_span_rows", none)).2, qL)] (R_law R_law_span_rows), fun p hp => ?_, fun p hp => ?_, fun p hp => ?_, b_law, fun H a ns hl _ hT hS => ?_, fun base X2 N2 TB => ?_⟩
  · rw [List.mem_singleton.mp hp]
    exact c.empty _ (List.mem_singleton_self _)
  · rw [List.mem_singleton.mp hp]
    exact c.out _ (List.mem_singleton_self _)
  · rw [List.mem_singleton.mp hp]
    exact PySem.W.codeHd_of_K X (c.hd _ (List.mem_singleton_self _))
  · have hP := hT _ (List.mem_singleton_self _)
    refine ⟨fun b => if b = (He.cT K ("_law_span_rows", none)).2 then none else H b, [.scr ns], .bl true, fun b o e => ?_, .cons (.scr ?_) .nil, fun p hp => ?_, fun q hq => ?_, ⟨ns, rfl, law_ok ns, rfl⟩, fun v H0' H' _ d => ?_⟩
    · by_cases hb : b = (He.cT K ("_law_span_rows", none)).2
      · cases (if_pos hb).symm.trans e
      · exact (if_neg hb).symm.trans e
    · rcases hS with hS | hS
      · refine .inl ?_
        by_cases hb : a = (He.cT K ("_law_span_rows", none)).2
        · rw [hb] at hS
          rcases hS with e | ⟨o, e⟩
          · rw [hP] at e
            cases e
          · rw [hP] at e
            cases e
        · rcases hS with e | ⟨o, e⟩
          · exact .inl ((if_neg hb).trans e)
          · exact .inr ⟨o, (if_neg hb).trans e⟩
      · exact .inr hS
    · rw [List.mem_singleton.mp hp]
      exact LamX.TabS.nil hP
    · rw [List.mem_singleton.mp hq]
      exact if_pos rfl
    · cases d
      rfl
  · clear hfa a0 a2 a3 a5 a6 a7 k1 k2
    obtain ⟨i1, i2⟩ := He.ba a17
    obtain ⟨i2, i3⟩ := He.ba i2
    obtain ⟨i3, i4⟩ := He.ba i3
    obtain ⟨fd_is_whole, F_is_whole, b_is_whole⟩ := q_is_whole c
    have D_is_whole : Dn PySem.Challenge.rw_carryturns_k74_whole_ideals_told.prog w K mg base "is_whole" 1 (spR (ctK K) R_is_whole) := ⟨_, gl 0 rfl, F_is_whole.kp, ok_is_whole F_is_whole T b_is_whole⟩
    obtain ⟨fd_is_integer, F_is_integer, b_is_integer⟩ := q_is_integer c
    have D_is_integer : Dn PySem.Challenge.rw_carryturns_k74_whole_ideals_told.prog w K mg base "is_integer" 2 (spR (ctK K) R_is_integer) := ⟨_, gl 1 rfl, F_is_integer.kp, ok_is_integer F_is_integer T D_is_whole b_is_integer⟩
    obtain ⟨fd_common_of, F_common_of, b_common_of⟩ := q_common_of c
    have D_common_of : Dn PySem.Challenge.rw_carryturns_k74_whole_ideals_told.prog w K mg base "common_of" 1 (spR (ctK K) R_common_of) := ⟨_, gl 2 rfl, F_common_of.kp, ok_common_of F_common_of T b_common_of⟩
    obtain ⟨fd_units_list, F_units_list, b_units_list⟩ := q_units_list c
    have D_units_list : Dn PySem.Challenge.rw_carryturns_k74_whole_ideals_told.prog w K mg base "units_list" 2 (spR (ctK K) R_units_list) := ⟨_, gl 3 rfl, F_units_list.kp, ok_units_list F_units_list T D_common_of b_units_list⟩
    obtain ⟨fd_powers_in, F_powers_in, b_powers_in⟩ := q_powers_in c
    have D_powers_in : Dn PySem.Challenge.rw_carryturns_k74_whole_ideals_told.prog w K mg base "powers_in" 1 (spR (ctK K) R_powers_in) := ⟨_, gl 4 rfl, F_powers_in.kp, ok_powers_in F_powers_in T b_powers_in⟩
    obtain ⟨fd_divisors_in, F_divisors_in, b_divisors_in⟩ := q_divisors_in c
    have D_divisors_in : Dn PySem.Challenge.rw_carryturns_k74_whole_ideals_told.prog w K mg base "divisors_in" 2 (spR (ctK K) R_divisors_in) := ⟨_, gl 5 rfl, F_divisors_in.kp, ok_divisors_in F_divisors_in T D_powers_in b_divisors_in⟩
    obtain ⟨fd_exact_quotient, F_exact_quotient, b_exact_quotient⟩ := q_exact_quotient c
    have D_exact_quotient : Dn PySem.Challenge.rw_carryturns_k74_whole_ideals_told.prog w K mg base "exact_quotient" 1 (spR (ctK K) R_exact_quotient) := ⟨_, gl 6 rfl, F_exact_quotient.kp, ok_exact_quotient F_exact_quotient T b_exact_quotient⟩
    obtain ⟨fd_cyclotomic_in, F_cyclotomic_in, b_cyclotomic_in⟩ := q_cyclotomic_in c
    have D_cyclotomic_in : Dn PySem.Challenge.rw_carryturns_k74_whole_ideals_told.prog w K mg base "cyclotomic_in" 3 (spR (ctK K) R_cyclotomic_in) := ⟨_, gl 7 rfl, F_cyclotomic_in.kp, ok_cyclotomic_in F_cyclotomic_in T D_divisors_in D_exact_quotient b_cyclotomic_in⟩
    obtain ⟨fd_frame_init, F_frame_init, b_frame_init⟩ := q_frame_init c
    have M_Frame : Mn PySem.Challenge.rw_carryturns_k74_whole_ideals_told.prog w K mg base (ctK K) "Frame" 0 4 (spI (ctK K) 0 R_frame_init) := ⟨gc 0 rfl, _, He.mkr_ok (all_ix a4 4 rfl), ok_frame_init F_frame_init T D_cyclotomic_in D_units_list S_0_0 S_0_1 S_0_2 S_0_3 b_frame_init⟩
    obtain ⟨fd_folded, F_folded, b_folded⟩ := q_folded c
    have Me_folded : Me PySem.Challenge.rw_carryturns_k74_whole_ideals_told.prog w K mg base (ctK K) 0 "folded" 1 (spR (ctK K) R_folded) := ⟨sc 0 (by omega), _, He.meth_ok (all_ix a4 0 rfl), ok_folded F_folded T S_0_1 S_0_2 b_folded⟩
    obtain ⟨fd_product, F_product, b_product⟩ := q_product c
    have Me_product : Me PySem.Challenge.rw_carryturns_k74_whole_ideals_told.prog w K mg base (ctK K) 0 "product" 2 (spR (ctK K) R_product) := ⟨sc 0 (by omega), _, He.meth_ok (all_ix a4 1 rfl), ok_product F_product T S_0_2 Me_folded b_product⟩
    obtain ⟨fd_power_row, F_power_row, b_power_row⟩ := q_power_row c
    have Me_power_row : Me PySem.Challenge.rw_carryturns_k74_whole_ideals_told.prog w K mg base (ctK K) 0 "power_row" 1 (spR (ctK K) R_power_row) := ⟨sc 0 (by omega), _, He.meth_ok (all_ix a4 2 rfl), ok_power_row F_power_row T S_0_0 S_0_1 b_power_row⟩
    obtain ⟨fd_whole_row, F_whole_row, b_whole_row⟩ := q_whole_row c
    have Me_whole_row : Me PySem.Challenge.rw_carryturns_k74_whole_ideals_told.prog w K mg base (ctK K) 0 "whole_row" 1 (spR (ctK K) R_whole_row) := ⟨sc 0 (by omega), _, He.meth_ok (all_ix a4 3 rfl), ok_whole_row F_whole_row T S_0_2 b_whole_row⟩
    obtain ⟨fd_z_times, F_z_times, b_z_times⟩ := q_z_times c
    have D_z_times : Dn PySem.Challenge.rw_carryturns_k74_whole_ideals_told.prog w K mg base "z_times" 3 (spR (ctK K) R_z_times) := ⟨_, gl 8 rfl, F_z_times.kp, ok_z_times F_z_times Me_power_row Me_product b_z_times⟩
    obtain ⟨fd_combined, F_combined, b_combined⟩ := q_combined c
    have D_combined : Dn PySem.Challenge.rw_carryturns_k74_whole_ideals_told.prog w K mg base "combined" 1 (spR (ctK K) R_combined) := ⟨_, gl 9 rfl, F_combined.kp, ok_combined F_combined T b_combined⟩
    obtain ⟨fd_is_in_rows, F_is_in_rows, b_is_in_rows⟩ := q_is_in_rows c
    have D_is_in_rows : Dn PySem.Challenge.rw_carryturns_k74_whole_ideals_told.prog w K mg base "is_in_rows" 2 (spR (ctK K) R_is_in_rows) := ⟨_, gl 10 rfl, F_is_in_rows.kp, ok_is_in_rows F_is_in_rows T D_combined b_is_in_rows⟩
    obtain ⟨fd_are_least, F_are_least, b_are_least⟩ := q_are_least c
    have D_are_least : Dn PySem.Challenge.rw_carryturns_k74_whole_ideals_told.prog w K mg base "are_least" 1 (spR (ctK K) R_are_least) := ⟨_, gl 11 rfl, F_are_least.kp, ok_are_least F_are_least T b_are_least⟩
    obtain ⟨fd_are_told_rows, F_are_told_rows, b_are_told_rows⟩ := q_are_told_rows c
    have D_are_told_rows : Dn PySem.Challenge.rw_carryturns_k74_whole_ideals_told.prog w K mg base "are_told_rows" 3 (spR (ctK K) R_are_told_rows) := ⟨_, gl 12 rfl, F_are_told_rows.kp, ok_are_told_rows F_are_told_rows T D_is_integer b_are_told_rows⟩
    obtain ⟨fd_are_ideal_rows, F_are_ideal_rows, b_are_ideal_rows⟩ := q_are_ideal_rows c
    have D_are_ideal_rows : Dn PySem.Challenge.rw_carryturns_k74_whole_ideals_told.prog w K mg base "are_ideal_rows" 4 (spR (ctK K) R_are_ideal_rows) := ⟨_, gl 13 rfl, F_are_ideal_rows.kp, ok_are_ideal_rows F_are_ideal_rows T S_0_2 D_are_told_rows D_are_least D_z_times D_is_in_rows b_are_ideal_rows⟩
    obtain ⟨fd_is_entries_of, F_is_entries_of, b_is_entries_of⟩ := q_is_entries_of c
    have D_is_entries_of : Dn PySem.Challenge.rw_carryturns_k74_whole_ideals_told.prog w K mg base "is_entries_of" 3 (spR (ctK K) R_is_entries_of) := ⟨_, gl 14 rfl, F_is_entries_of.kp, ok_is_entries_of F_is_entries_of T S_0_2 D_is_integer b_is_entries_of⟩
    obtain ⟨fd_require_order, F_require_order, b_require_order⟩ := q_require_order c
    have D_require_order : Dn PySem.Challenge.rw_carryturns_k74_whole_ideals_told.prog w K mg base "require_order" 3 (spR (ctK K) R_require_order) := ⟨_, gl 15 rfl, F_require_order.kp, ok_require_order F_require_order T D_is_integer b_require_order⟩
    obtain ⟨fd_require_ideal_order, F_require_ideal_order, b_require_ideal_order⟩ := q_require_ideal_order c
    have D_require_ideal_order : Dn PySem.Challenge.rw_carryturns_k74_whole_ideals_told.prog w K mg base "require_ideal_order" 3 (spR (ctK K) R_require_ideal_order) := ⟨_, gl 16 rfl, F_require_ideal_order.kp, ok_require_ideal_order F_require_ideal_order T D_is_integer D_units_list b_require_ideal_order⟩
    obtain ⟨fd_kept, F_kept, b_kept⟩ := q_kept c
    have M_Kept : Mn PySem.Challenge.rw_carryturns_k74_whole_ideals_told.prog w K mg base (ctK K) "Kept" 1 1 (spI (ctK K) 1 R_kept) := ⟨gc 1 rfl, _, He.mkr_ok (all_ix a4 5 rfl), ok_kept F_kept S_1_0 S_1_1 b_kept⟩
    obtain ⟨fd_made, F_made, b_made⟩ := q_made c
    have M_Made : Mn PySem.Challenge.rw_carryturns_k74_whole_ideals_told.prog w K mg base (ctK K) "Made" 3 1 (spI (ctK K) 3 R_made) := ⟨gc 3 rfl, _, He.mkr_ok (all_ix a4 7 rfl), ok_made F_made S_3_0 S_3_1 b_made⟩
    obtain ⟨fd_turn_init, F_turn_init, b_turn_init⟩ := q_turn_init c
    have M_Turn : Mn PySem.Challenge.rw_carryturns_k74_whole_ideals_told.prog w K mg base (ctK K) "Turn" 2 6 (spI (ctK K) 2 R_turn_init) := ⟨gc 2 rfl, _, He.mkr_ok (all_ix a4 6 rfl), ok_turn_init F_turn_init T G S_1_0 S_1_1 S_2_0 S_2_1 S_2_2 S_0_0 D_require_order M_Frame D_is_entries_of b_turn_init⟩
    obtain ⟨fd_turn_with, F_turn_with, b_turn_with⟩ := q_turn_with c
    have D_turn_with : Dn PySem.Challenge.rw_carryturns_k74_whole_ideals_told.prog w K mg base "turn_with" 8 (spR (ctK K) R_turn_with) := ⟨_, gl 17 rfl, F_turn_with.kp, ok_turn_with F_turn_with S_0_0 M_Kept M_Turn b_turn_with⟩
    obtain ⟨fd_turn_whole, F_turn_whole, b_turn_whole⟩ := q_turn_whole c
    obtain ⟨m1, m2⟩ := He.ba a11
    obtain ⟨m2, m3⟩ := He.ba m2
    obtain ⟨m3, m4⟩ := He.ba m3
    obtain ⟨m5, m6⟩ := He5.wrapB_ok m3
    have C_whole := cm_of (C := ctK K) (c := 2) ⟨m1, He.eqO_ok m2⟩ ⟨m5, m6, m4⟩ (ok_turn_whole F_turn_whole T D_require_order D_is_integer M_Frame Me_whole_row D_turn_with b_turn_whole : FnR PySem.Challenge.rw_carryturns_k74_whole_ideals_told.prog w K mg base CX0 9 _ (spR (ctK K) R_turn_whole))
    obtain ⟨fd_ideal_init, F_ideal_init, b_ideal_init⟩ := q_ideal_init c
    have M_Ideal : Mn PySem.Challenge.rw_carryturns_k74_whole_ideals_told.prog w K mg base (ctK K) "Ideal" 4 6 (spI (ctK K) 4 R_ideal_init) := ⟨gc 4 rfl, _, He.mkr_ok (all_ix a4 8 rfl), ok_ideal_init F_ideal_init T G S_3_0 S_3_1 S_4_0 S_4_1 S_4_2 S_4_3 S_4_4 S_0_0 D_require_ideal_order M_Frame D_are_ideal_rows b_ideal_init⟩
    have MX_Ideal : MnX PySem.Challenge.rw_carryturns_k74_whole_ideals_told.prog w K mg base (ctK K) "Ideal" 4 6 (spIX (ctK K) 4 ((ctK K).cls 5) R_ideal_bad) := ⟨gc 4 rfl, _, He.mkr_ok (all_ix a4 8 rfl), ok_ideal_bad F_ideal_init T G GX D_require_ideal_order M_Frame D_are_ideal_rows b_ideal_init⟩
    obtain ⟨fd_made_ideal, F_made_ideal, b_made_ideal⟩ := q_made_ideal c
    have D_made_ideal : Dn PySem.Challenge.rw_carryturns_k74_whole_ideals_told.prog w K mg base "made_ideal" 8 (spR (ctK K) R_made_ideal) := ⟨_, gl 18 rfl, F_made_ideal.kp, ok_made_ideal F_made_ideal S_0_0 M_Made M_Ideal b_made_ideal⟩
    obtain ⟨fd_whole_in, F_whole_in, b_whole_in⟩ := q_whole_in c
    have D_whole_in : Dn PySem.Challenge.rw_carryturns_k74_whole_ideals_told.prog w K mg base "whole_in" 9 (spR (ctK K) R_whole_in) := ⟨_, gl 19 rfl, F_whole_in.kp, ok_whole_in F_whole_in T S_0_2 D_made_ideal b_whole_in⟩
    obtain ⟨fd_whole_ideal, F_whole_ideal, b_whole_ideal⟩ := q_whole_ideal c
    have D_whole_ideal : Dn PySem.Challenge.rw_carryturns_k74_whole_ideals_told.prog w K mg base "whole_ideal" 10 (spR (ctK K) R_whole_ideal) := ⟨_, gl 20 rfl, F_whole_ideal.kp, ok_whole_ideal F_whole_ideal D_require_ideal_order M_Frame D_whole_in b_whole_ideal⟩
    obtain ⟨fd_id_order, F_id_order, b_id_order⟩ := q_id_order c
    have P_order := pr_of (C := ctK K) (c := 4) (sc 4 (by omega)) (prop_of a8).1 (prop_of a8).2.1 (prop_of a8).2.2.1 (prop_of a8).2.2.2 (ok_id_order F_id_order S_4_1 b_id_order : FnR PySem.Challenge.rw_carryturns_k74_whole_ideals_told.prog w K mg base CX0 1 _ (spR (ctK K) (R_fld 1)))
    obtain ⟨fd_id_rows, F_id_rows, b_id_rows⟩ := q_id_rows c
    have P_rows := pr_of (C := ctK K) (c := 4) (sc 4 (by omega)) (prop_of a9).1 (prop_of a9).2.1 (prop_of a9).2.2.1 (prop_of a9).2.2.2 (ok_id_rows F_id_rows S_4_2 b_id_rows : FnR PySem.Challenge.rw_carryturns_k74_whole_ideals_told.prog w K mg base CX0 1 _ (spR (ctK K) (R_fld 2)))
    obtain ⟨fd_id_size, F_id_size, b_id_size⟩ := q_id_size c
    have P_size := pr_of (C := ctK K) (c := 4) (sc 4 (by omega)) (prop_of a10).1 (prop_of a10).2.1 (prop_of a10).2.2.1 (prop_of a10).2.2.2 (ok_id_size F_id_size S_4_3 b_id_size : FnR PySem.Challenge.rw_carryturns_k74_whole_ideals_told.prog w K mg base CX0 1 _ (spR (ctK K) (R_fld 3)))
    obtain ⟨fd_id_len, F_id_len, b_id_len⟩ := q_id_len c
    have O_ulenu := ow_of (C := ctK K) (c := 4) (He.eqO_ok (He.ba a13).1) (He.ba a13).2 (ok_id_len F_id_len T S_4_2 b_id_len : FnR PySem.Challenge.rw_carryturns_k74_whole_ideals_told.prog w K mg base CX0 1 _ (spR (ctK K) R_id_len))
    obtain ⟨fd_id_str, F_id_str, b_id_str⟩ := q_id_str c
    have O_ustru := ow_of (C := ctK K) (c := 4) (He.eqO_ok (He.ba a12).1) (He.ba a12).2 (ok_id_str F_id_str S_4_4 b_id_str : FnR PySem.Challenge.rw_carryturns_k74_whole_ideals_told.prog w K mg base CX0 1 _ (spR (ctK K) R_id_str))
    obtain ⟨fd_id_contains, F_id_contains, b_id_contains⟩ := q_id_contains c
    have O_ucontainsu := ow_of (C := ctK K) (c := 4) (He.eqO_ok (He.ba a16).1) (He.ba a16).2 (ok_id_contains F_id_contains T G S_4_1 S_4_2 S_2_0 S_2_2 D_is_in_rows b_id_contains : FnR PySem.Challenge.rw_carryturns_k74_whole_ideals_told.prog w K mg base CX0 3 _ (spR (ctK K) R_id_contains))
    obtain ⟨fd_id_eq, F_id_eq, b_id_eq⟩ := q_id_eq c
    have O_uequ := ow_of (C := ctK K) (c := 4) (He.eqO_ok (He.ba a15).1) (He.ba a15).2 (ok_id_eq F_id_eq T G S_4_1 S_4_2 b_id_eq : FnR PySem.Challenge.rw_carryturns_k74_whole_ideals_told.prog w K mg base CX0 1 _ (spR (ctK K) R_id_eq))
    obtain ⟨fd_law_divisors, F_law_divisors, b_law_divisors⟩ := q_law_divisors c
    have D__law_divisors : Dn PySem.Challenge.rw_carryturns_k74_whole_ideals_told.prog w K mg base "_law_divisors" 1 (spR (ctK K) R_law_divisors) := ⟨_, gl 21 rfl, F_law_divisors.kp, ok_law_divisors F_law_divisors T b_law_divisors⟩
    obtain ⟨fd_law_poly_over, F_law_poly_over, b_law_poly_over⟩ := q_law_poly_over c
    have D__law_poly_over : Dn PySem.Challenge.rw_carryturns_k74_whole_ideals_told.prog w K mg base "_law_poly_over" 1 (spR (ctK K) R_exact_quotient) := ⟨_, gl 22 rfl, F_law_poly_over.kp, ok_law_poly_over F_law_poly_over T b_law_poly_over⟩
    obtain ⟨fd_law_cyclotomic, F_law_cyclotomic, b_law_cyclotomic⟩ := q_law_cyclotomic c
    have D__law_cyclotomic : Dn PySem.Challenge.rw_carryturns_k74_whole_ideals_told.prog w K mg base "_law_cyclotomic" 2 (spR (ctK K) R_law_cyclotomic) := ⟨_, gl 23 rfl, F_law_cyclotomic.kp, ok_law_cyclotomic F_law_cyclotomic T D__law_divisors D__law_poly_over b_law_cyclotomic⟩
    obtain ⟨fd_law_turn_cut, F_law_turn_cut, b_law_turn_cut⟩ := q_law_turn_cut c
    have D__law_turn_cut : Dn PySem.Challenge.rw_carryturns_k74_whole_ideals_told.prog w K mg base "_law_turn_cut" 3 (spR (ctK K) R_law_turn_cut) := ⟨_, gl 24 rfl, F_law_turn_cut.kp, ok_law_turn_cut F_law_turn_cut T D__law_cyclotomic b_law_turn_cut⟩
    obtain ⟨fd_law_turn_times, F_law_turn_times, b_law_turn_times⟩ := q_law_turn_times c
    have D__law_turn_times : Dn PySem.Challenge.rw_carryturns_k74_whole_ideals_told.prog w K mg base "_law_turn_times" 4 (spR (ctK K) R_law_turn_times) := ⟨_, gl 25 rfl, F_law_turn_times.kp, ok_law_turn_times F_law_turn_times T D__law_turn_cut b_law_turn_times⟩
    obtain ⟨fd_law_turn_power, F_law_turn_power, b_law_turn_power⟩ := q_law_turn_power c
    have D__law_turn_power : Dn PySem.Challenge.rw_carryturns_k74_whole_ideals_told.prog w K mg base "_law_turn_power" 4 (spR (ctK K) R_law_turn_power) := ⟨_, gl 26 rfl, F_law_turn_power.kp, ok_law_turn_power F_law_turn_power T D__law_turn_cut b_law_turn_power⟩
    obtain ⟨fd_law_turn_whole, F_law_turn_whole, b_law_turn_whole⟩ := q_law_turn_whole c
    have D__law_turn_whole : Dn PySem.Challenge.rw_carryturns_k74_whole_ideals_told.prog w K mg base "_law_turn_whole" 4 (spR (ctK K) R_law_turn_whole) := ⟨_, gl 27 rfl, F_law_turn_whole.kp, ok_law_turn_whole F_law_turn_whole D__law_turn_cut b_law_turn_whole⟩
    obtain ⟨fd_law_row_less, F_law_row_less, b_law_row_less⟩ := q_law_row_less c
    have D__law_row_less : Dn PySem.Challenge.rw_carryturns_k74_whole_ideals_told.prog w K mg base "_law_row_less" 1 (spR (ctK K) R_law_row_less) := ⟨_, gl 28 rfl, F_law_row_less.kp, ok_law_row_less F_law_row_less T b_law_row_less⟩
    obtain ⟨fd_law_is_in_rows, F_law_is_in_rows, b_law_is_in_rows⟩ := q_law_is_in_rows c
    have D__law_is_in_rows : Dn PySem.Challenge.rw_carryturns_k74_whole_ideals_told.prog w K mg base "_law_is_in_rows" 2 (spR (ctK K) R_law_is_in_rows) := ⟨_, gl 29 rfl, F_law_is_in_rows.kp, ok_law_is_in_rows F_law_is_in_rows T D__law_row_less b_law_is_in_rows⟩
    obtain ⟨fd_law_ideal_size, F_law_ideal_size, b_law_ideal_size⟩ := q_law_ideal_size c
    have D__law_ideal_size : Dn PySem.Challenge.rw_carryturns_k74_whole_ideals_told.prog w K mg base "_law_ideal_size" 1 (spR (ctK K) R_law_ideal_size) := ⟨_, gl 30 rfl, F_law_ideal_size.kp, ok_law_ideal_size F_law_ideal_size T b_law_ideal_size⟩
    obtain ⟨fd_law_roll, F_law_roll, b_law_roll⟩ := q_law_roll c
    have D__law_roll : Dn PySem.Challenge.rw_carryturns_k74_whole_ideals_told.prog w K mg base "_law_roll" 1 (spD (ctK K) R_law_roll) := ⟨_, gl 31 rfl, F_law_roll.kp, ok_law_roll F_law_roll T b_law_roll⟩
    obtain ⟨fd_law_pick, F_law_pick, b_law_pick⟩ := q_law_pick c
    have D__law_pick : Dn PySem.Challenge.rw_carryturns_k74_whole_ideals_told.prog w K mg base "_law_pick" 2 (spD (ctK K) R_law_pick) := ⟨_, gl 32 rfl, F_law_pick.kp, ok_law_pick F_law_pick T D__law_roll b_law_pick⟩
    obtain ⟨fd_law_small_order, F_law_small_order, b_law_small_order⟩ := q_law_small_order c
    have D__law_small_order : Dn PySem.Challenge.rw_carryturns_k74_whole_ideals_told.prog w K mg base "_law_small_order" 3 (spD (ctK K) R_law_small_order) := ⟨_, gl 33 rfl, F_law_small_order.kp, ok_law_small_order F_law_small_order D__law_pick b_law_small_order⟩
    obtain ⟨fd_law_turn_drawn, F_law_turn_drawn, b_law_turn_drawn⟩ := q_law_turn_drawn c
    have D__law_turn_drawn : Dn PySem.Challenge.rw_carryturns_k74_whole_ideals_told.prog w K mg base "_law_turn_drawn" 3 (spD (ctK K) R_law_turn_drawn) := ⟨_, gl 34 rfl, F_law_turn_drawn.kp, ok_law_turn_drawn F_law_turn_drawn T D__law_cyclotomic D__law_roll b_law_turn_drawn⟩
    obtain ⟨fd_law_turn_other, F_law_turn_other, b_law_turn_other⟩ := q_law_turn_other c
    have D__law_turn_other : Dn PySem.Challenge.rw_carryturns_k74_whole_ideals_told.prog w K mg base "_law_turn_other" 4 (spD (ctK K) R_law_turn_other) := ⟨_, gl 35 rfl, F_law_turn_other.kp, ok_law_turn_other F_law_turn_other T D__law_turn_drawn D__law_turn_cut b_law_turn_other⟩
    obtain ⟨fd_law_dice, F_law_dice, b_law_dice⟩ := q_law_dice c
    have D__law_dice : Dn PySem.Challenge.rw_carryturns_k74_whole_ideals_told.prog w K mg base "_law_dice" 1 (spF (ctK K) R_law_dice) := ⟨_, gl 36 rfl, F_law_dice.kp, ok_law_dice rfl F_law_dice T b_law_dice⟩
    obtain ⟨fd_law_are_ideal_rows, F_law_are_ideal_rows, b_law_are_ideal_rows⟩ := q_law_are_ideal_rows c
    have D__law_are_ideal_rows : Dn PySem.Challenge.rw_carryturns_k74_whole_ideals_told.prog w K mg base "_law_are_ideal_rows" 5 (spR (ctK K) R_law_are_ideal_rows) := ⟨_, gl 37 rfl, F_law_are_ideal_rows.kp, ok_law_are_ideal_rows F_law_are_ideal_rows T D__law_cyclotomic D__law_turn_times D__law_turn_power D__law_is_in_rows b_law_are_ideal_rows⟩
    obtain ⟨fd_law_near, F_law_near, b_law_near⟩ := q_law_near c
    have D__law_near : Dn PySem.Challenge.rw_carryturns_k74_whole_ideals_told.prog w K mg base "_law_near" 2 (spD (ctK K) R_law_near) := ⟨_, gl 38 rfl, F_law_near.kp, ok_law_near F_law_near T D__law_roll b_law_near⟩
    have D__law_span_rows : Dn PySem.Challenge.rw_carryturns_k74_whole_ideals_told.prog w K mg base "_law_span_rows" 2 (spRT (ctK K) [((He.cT K ("_law_span_rows", none)).2, qL)] R_law_span_rows) := ⟨_, gl 41 rfl, F_law_span_rows.kp, ok_law_span_rows F_law_span_rows hcd (TB _ (List.mem_singleton_self _)) T D__law_row_less b_law_span_rows⟩
    obtain ⟨fd_law_made_or_none, F_law_made_or_none, b_law_made_or_none⟩ := q_law_made_or_none c
    have D__law_made_or_none : Dn PySem.Challenge.rw_carryturns_k74_whole_ideals_told.prog w K mg base "_law_made_or_none" 8 (spR (ctK K) R_law_made_or_none) := ⟨_, gl 42 rfl, F_law_made_or_none.kp, ok_law_made_or_none F_law_made_or_none GX M_Ideal MX_Ideal P_rows b_law_made_or_none⟩
    obtain ⟨fd_id_iter, F_id_iter, b_id_iter⟩ := q_id_iter c
    have O_uiteru := ow_of (C := ctK K) (c := 4) (He.eqO_ok (He.ba a14).1) (He.ba a14).2 (ok_id_iter F_id_iter T S_4_2 b_id_iter : FnR PySem.Challenge.rw_carryturns_k74_whole_ideals_told.prog w K mg base CX0 1 _ (spIt (ctK K) R_id_iter))
    obtain ⟨fd_law_ideal_rows, F_law_ideal_rows, b_law_ideal_rows⟩ := q_law_ideal_rows c
    have D__law_ideal_rows : Dn PySem.Challenge.rw_carryturns_k74_whole_ideals_told.prog w K mg base "_law_ideal_rows" 7 (spRT (ctK K) [((He.cT K ("_law_span_rows", none)).2, qL)] (R_law_ideal_rows R_law_span_rows)) := ⟨_, gl 39 rfl, F_law_ideal_rows.kp, ok_law_ideal_rows F_law_ideal_rows T D__law_cyclotomic D__law_turn_times D__law_turn_power D__law_span_rows b_law_ideal_rows⟩
    obtain ⟨fd_law_ideal_drawn, F_law_ideal_drawn, b_law_ideal_drawn⟩ := q_law_ideal_drawn c
    have D__law_ideal_drawn : Dn PySem.Challenge.rw_carryturns_k74_whole_ideals_told.prog w K mg base "_law_ideal_drawn" 8 (spDT (ctK K) [((He.cT K ("_law_span_rows", none)).2, qL)] (R_law_ideal_drawn R_law_span_rows)) := ⟨_, gl 40 rfl, F_law_ideal_drawn.kp, ok_law_ideal_drawn F_law_ideal_drawn D__law_turn_other D__law_roll D__law_pick D__law_turn_whole D__law_ideal_rows b_law_ideal_drawn⟩
    have RD : RightD PySem.Challenge.rw_carryturns_k74_whole_ideals_told.prog w K mg base (ctK K) [((He.cT K ("_law_span_rows", none)).2, qL)] R_law_span_rows := {
      order := D__law_small_order, drawn := D__law_ideal_drawn, near := D__law_near, isR := D__law_are_ideal_rows, made := D__law_made_or_none, ideal := M_Ideal, turn := M_Turn, lsz := D__law_ideal_size, tdr := D__law_turn_drawn, pick := D__law_pick, inr := D__law_is_in_rows,
      porder := P_order, psize := P_size, ostr := O_ustru, olen := O_ulenu, oiter := O_uiteru, oeq := O_uequ, ocon := O_ucontainsu, whole := C_whole, ne := He.eqO_ok i1, mro := of_decide_eq_true i2, nf4 := i3, nft := i4 }
    obtain ⟨fd_law_right, F_law_right, b_law_right⟩ := q_law_right c
    have D__law_right : Dn PySem.Challenge.rw_carryturns_k74_whole_ideals_told.prog w K mg base "_law_right" 11 (spDT (ctK K) [((He.cT K ("_law_span_rows", none)).2, qL)] (R_law_right R_law_span_rows)) := ⟨_, gl 43 rfl, F_law_right.kp, ok_law_right F_law_right T G RD b_law_right⟩
    exact ok_law rfl F_law T D__law_dice D__law_right D_whole_ideal M_Ideal D__law_made_or_none P_rows P_size O_ulenu
end Q
end

/-! text W32 -/
section
set_option Elab.async false
set_option linter.all false
set_option maxRecDepth 100000
set_option maxHeartbeats 0
/-! the statement -/
open PySem PySem.W PySem.Calls PyProof.Rows
theorem PySem.Challenge.cw_carryturns_k74_whole_ideals_told_holds : PySem.Challenge.rw_carryturns_k74_whole_ideals_told.Holds := by
  w_on; o_law
  refine HandSHeadRun.head_any (r := Q.rowC) (q := Q.viewC) (H := Q.hkC) (ob := Q.obC) (M := 30000) (loose := Q.loL) (d := HandSHeadRun.topDef Q.rowC.prog 90) (kwd := []) Q.obC_eq
    (by kernel_rfl) (fun s => by kernel_rfl) Q.runC (by kernel_rfl) (by kernel_rfl) (by kernel_rfl) (by rfl) (by first | assumption | decide +kernel) (by decide +kernel) ⟨rfl, rfl, rfl, rfl, rfl, by decide +kernel⟩ ?hw ?hc
  case hw => w_witness2
  case hc =>
    refine LamX.walk_ofTsE (l := PySem.Challenge.rw_carryturns_k74_whole_ideals_told) (n := 63) (k := 12) (x := "_law_script") (CX := fun _ => L2.CX0) rfl (by decide) (by kernel_rfl) ⟨rfl, by decide, by decide⟩ ?F (fun _ _ _ _ _ z => z)
    intro w mg fa h Y N hmg0
    obtain ⟨K, KX, c⟩ := Y
    have hmg : mg ("law" : PySem.Str) = some (.ref fa) := by
      have e : (HandSHeadRun.topDef Q.rowC.prog 90).name = ("law" : PySem.Str) := by kernel_rfl
      rw [← e]
      exact hmg0
    exact ⟨K, KX, Q.law_fact KX N hmg c⟩
end
